/- TopKeyed: at every input the law's function returns true and leaves its arguments as they were; no condition beyond the row's own. Part 3 of 3: this session's own texts, laid together. -/
import Derived.Test.YthbljhmjppjcjaaMTopKeyed1
import Derived.Test.YthbljhmjppjcjaaMTopKeyed2
import Derived.Lib.IndexLaws
import Derived.Lib.Join
import Derived.Lib.SmallJoins
import Derived.Test.YthbljhmjppjcjaaProg
import Derived.Laws.BitsLemmas
import Derived.Laws.Bits64
import Derived.Lib.BitFns
import Derived.Test.YthbljhmjppjcjaaRows
import Derived.Deep.Strs
import Derived.SizedLaws
import Derived.ChangeArms
import Derived.WalkKit
import Derived.ProofKit
import Derived.OpenShut
import Derived.ShutString
import Derived.ChangeOld
import Derived.Below
import Derived.Carry
section
-- Printed by a program of this session (mp.py) out of the translation.
namespace Go.Proofs.Ythbljhmjppjcjaa.Z
open Go.RowKit Go.Proofs.YthbljhmjppjcjaaW.PrintWords Go.Proofs.YthbljhmjppjcjaaW.PrintLast Go.Proofs.YthbljhmjppjcjaaW.PrintMore
attribute [local go_sem] max2_int min2_int max_two min_two max_three min_three max_four min_four   -- for this text's walks alone
set_option linter.unusedVariables false
set_option linter.unusedSimpArgs false

/-! ### cambiumtop_TopKeyed: function 3 -/
mutual
def cambiumtop_TopKeyed.j0 : Nat → Int → List ByteArray → Bool → Option (Bool)
  | 0, _, _, _ => none
  | k + 1, x1, x5, x30 => if x30 = true then (some true) else ((inode_Prefix.f k 2 x1).bind fun t169 => (cambiumtop_TopKeyed.l0 k x1 x5 t169 x5 (x5.length : Int) 0))
def cambiumtop_TopKeyed.l0 : Nat → Int → List ByteArray → ByteArray → List ByteArray → Int → Int → Option (Bool)
  | 0, _, _, _, _, _, _ => none
  | k + 1, x1, x5, x7, x33, x34, x35 => if x35 < x34 then (if 0 ≤ x35 then (if x35 < (x33.length : Int) then ((inode_Key.f k 2 x1 (rdOf ByteArray.empty x33 x35) 0).bind fun bt171 => ((inode_Parse.f k bt171.1).bind fun bt173 => (if bt171.2 = 0 then (if 0 ≤ (x7.size : Int) then (if (x7.size : Int) ≤ (bt171.1.size : Int) then (if (bt171.1.extract 0 ((x7.size : Int) : Int).toNat).toList = x7.toList then (if bt173.2.2.2.2 = 0 then (if bt173.2.2.1.toList = (rdOf ByteArray.empty x33 x35).toList then (cambiumtop_TopKeyed.j2 k x1 x5 x7 x35 (rdOf ByteArray.empty x33 x35) bt171.1 x33 x34 x35 (bt173.2.1 != x1)) else (cambiumtop_TopKeyed.j2 k x1 x5 x7 x35 (rdOf ByteArray.empty x33 x35) bt171.1 x33 x34 x35 true)) else (cambiumtop_TopKeyed.j2 k x1 x5 x7 x35 (rdOf ByteArray.empty x33 x35) bt171.1 x33 x34 x35 true)) else (cambiumtop_TopKeyed.j2 k x1 x5 x7 x35 (rdOf ByteArray.empty x33 x35) bt171.1 x33 x34 x35 true)) else (none)) else (none)) else (cambiumtop_TopKeyed.j2 k x1 x5 x7 x35 (rdOf ByteArray.empty x33 x35) bt171.1 x33 x34 x35 true)))) else (none)) else (none)) else (some true)
def cambiumtop_TopKeyed.j2 : Nat → Int → List ByteArray → ByteArray → Int → ByteArray → ByteArray → List ByteArray → Int → Int → Bool → Option (Bool)
  | 0, _, _, _, _, _, _, _, _, _, _ => none
  | k + 1, x1, x5, x7, x8, x9, x10, x33, x34, x35, x77 => if x77 = true then (some false) else (if 0 ≤ x8 then (if x8 ≤ (x5.length : Int) then ((some (x5.take (x8 : Int).toNat : List ByteArray)).bind fun y179 => (cambiumtop_TopKeyed.l1 k x1 x5 x7 x9 x10 x33 x34 x35 y179 (y179.length : Int) 0)) else (none)) else (none))
def cambiumtop_TopKeyed.l1 : Nat → Int → List ByteArray → ByteArray → ByteArray → ByteArray → List ByteArray → Int → Int → List ByteArray → Int → Int → Option (Bool)
  | 0, _, _, _, _, _, _, _, _, _, _, _ => none
  | k + 1, x1, x5, x7, x9, x10, x33, x34, x35, x80, x81, x82 => if x82 < x81 then (if 0 ≤ x82 then (if x82 < (x80.length : Int) then ((inode_Key.f k 2 x1 (rdOf ByteArray.empty x80 x82) 0).bind fun bt184 => (if ((Op.bytesLess x10.toList bt184.1.toList) != (Op.bytesLess x9.toList ((rdOf ByteArray.empty x80 x82).toList))) = true then (some false) else (if ((x10.toList == bt184.1.toList) != (x9.toList == (rdOf ByteArray.empty x80 x82).toList)) = true then (some false) else (cambiumtop_TopKeyed.l1 k x1 x5 x7 x9 x10 x33 x34 x35 x80 x81 (wrap64 (x82 + 1)))))) else (none)) else (none)) else (cambiumtop_TopKeyed.l0 k x1 x5 x7 x33 x34 (wrap64 (x35 + 1)))
end
def cambiumtop_TopKeyed.f (k : Nat) (a0 : ByteArray) (a1 : Int) : Option (Bool) := (cambiumtop_begins.f).bind fun t164 => (if t164 = true then ((path_Split.f k a0).bind fun bt165 => (if bt165.2 = 0 then (cambiumtop_TopKeyed.j0 k a1 bt165.1 (a1 == 0)) else (cambiumtop_TopKeyed.j0 k a1 bt165.1 true))) else (some false))
theorem cambiumtop_TopKeyed.mono_l : ∀ k, (∀ y0 y1 y2, LeO (cambiumtop_TopKeyed.j0 k y0 y1 y2) (cambiumtop_TopKeyed.j0 (k + 1) y0 y1 y2)) ∧ (∀ y0 y1 y2 y3 y4 y5, LeO (cambiumtop_TopKeyed.l0 k y0 y1 y2 y3 y4 y5) (cambiumtop_TopKeyed.l0 (k + 1) y0 y1 y2 y3 y4 y5)) ∧ (∀ y0 y1 y2 y3 y4 y5 y6 y7 y8 y9, LeO (cambiumtop_TopKeyed.j2 k y0 y1 y2 y3 y4 y5 y6 y7 y8 y9) (cambiumtop_TopKeyed.j2 (k + 1) y0 y1 y2 y3 y4 y5 y6 y7 y8 y9)) ∧ (∀ y0 y1 y2 y3 y4 y5 y6 y7 y8 y9 y10, LeO (cambiumtop_TopKeyed.l1 k y0 y1 y2 y3 y4 y5 y6 y7 y8 y9 y10) (cambiumtop_TopKeyed.l1 (k + 1) y0 y1 y2 y3 y4 y5 y6 y7 y8 y9 y10))
  | 0 => ⟨fun _ _ _ r h => by simp [cambiumtop_TopKeyed.j0] at h, fun _ _ _ _ _ _ r h => by simp [cambiumtop_TopKeyed.l0] at h, fun _ _ _ _ _ _ _ _ _ _ r h => by simp [cambiumtop_TopKeyed.j2] at h, fun _ _ _ _ _ _ _ _ _ _ _ r h => by simp [cambiumtop_TopKeyed.l1] at h⟩
  | k + 1 => by
    obtain ⟨ih0, ih1, ih2, ih3⟩ := cambiumtop_TopKeyed.mono_l k
    refine ⟨?_, ?_, ?_, ?_⟩
    · intro y0 y1 y2
      unfold cambiumtop_TopKeyed.j0
      repeat' first
      | (with_reducible exact ih0 _ _ _)
      | (with_reducible exact ih1 _ _ _ _ _ _)
      | (with_reducible exact ih2 _ _ _ _ _ _ _ _ _ _)
      | (with_reducible exact ih3 _ _ _ _ _ _ _ _ _ _ _)
      | (with_reducible exact inode_Key.mono _ _ _ _ _)
      | (with_reducible exact inode_Parse.mono _ _)
      | (with_reducible exact inode_Prefix.mono _ _ _)
      | (with_reducible exact path_Split.mono _ _)
      | (with_reducible exact LeO.refl _)
      | (with_reducible exact LeO.none _)
      | (with_reducible refine LeO.ite ?_ ?_)
      | (with_reducible refine LeO.bind ?_ (fun _ => ?_))
      | exact ih0 _ _ _
      | exact ih1 _ _ _ _ _ _
      | exact ih2 _ _ _ _ _ _ _ _ _ _
      | exact ih3 _ _ _ _ _ _ _ _ _ _ _
      | exact inode_Key.mono _ _ _ _ _
      | exact inode_Parse.mono _ _
      | exact inode_Prefix.mono _ _ _
      | exact path_Split.mono _ _
      | exact LeO.none _
      | refine LeO.ite ?_ ?_
      | refine LeO.bind ?_ (fun _ => ?_)
    · intro y0 y1 y2 y3 y4 y5
      unfold cambiumtop_TopKeyed.l0
      repeat' first
      | (with_reducible exact ih0 _ _ _)
      | (with_reducible exact ih1 _ _ _ _ _ _)
      | (with_reducible exact ih2 _ _ _ _ _ _ _ _ _ _)
      | (with_reducible exact ih3 _ _ _ _ _ _ _ _ _ _ _)
      | (with_reducible exact inode_Key.mono _ _ _ _ _)
      | (with_reducible exact inode_Parse.mono _ _)
      | (with_reducible exact inode_Prefix.mono _ _ _)
      | (with_reducible exact path_Split.mono _ _)
      | (with_reducible exact LeO.refl _)
      | (with_reducible exact LeO.none _)
      | (with_reducible refine LeO.ite ?_ ?_)
      | (with_reducible refine LeO.bind ?_ (fun _ => ?_))
      | exact ih0 _ _ _
      | exact ih1 _ _ _ _ _ _
      | exact ih2 _ _ _ _ _ _ _ _ _ _
      | exact ih3 _ _ _ _ _ _ _ _ _ _ _
      | exact inode_Key.mono _ _ _ _ _
      | exact inode_Parse.mono _ _
      | exact inode_Prefix.mono _ _ _
      | exact path_Split.mono _ _
      | exact LeO.none _
      | refine LeO.ite ?_ ?_
      | refine LeO.bind ?_ (fun _ => ?_)
    · intro y0 y1 y2 y3 y4 y5 y6 y7 y8 y9
      unfold cambiumtop_TopKeyed.j2
      repeat' first
      | (with_reducible exact ih0 _ _ _)
      | (with_reducible exact ih1 _ _ _ _ _ _)
      | (with_reducible exact ih2 _ _ _ _ _ _ _ _ _ _)
      | (with_reducible exact ih3 _ _ _ _ _ _ _ _ _ _ _)
      | (with_reducible exact inode_Key.mono _ _ _ _ _)
      | (with_reducible exact inode_Parse.mono _ _)
      | (with_reducible exact inode_Prefix.mono _ _ _)
      | (with_reducible exact path_Split.mono _ _)
      | (with_reducible exact LeO.refl _)
      | (with_reducible exact LeO.none _)
      | (with_reducible refine LeO.ite ?_ ?_)
      | (with_reducible refine LeO.bind ?_ (fun _ => ?_))
      | exact ih0 _ _ _
      | exact ih1 _ _ _ _ _ _
      | exact ih2 _ _ _ _ _ _ _ _ _ _
      | exact ih3 _ _ _ _ _ _ _ _ _ _ _
      | exact inode_Key.mono _ _ _ _ _
      | exact inode_Parse.mono _ _
      | exact inode_Prefix.mono _ _ _
      | exact path_Split.mono _ _
      | exact LeO.none _
      | refine LeO.ite ?_ ?_
      | refine LeO.bind ?_ (fun _ => ?_)
    · intro y0 y1 y2 y3 y4 y5 y6 y7 y8 y9 y10
      unfold cambiumtop_TopKeyed.l1
      repeat' first
      | (with_reducible exact ih0 _ _ _)
      | (with_reducible exact ih1 _ _ _ _ _ _)
      | (with_reducible exact ih2 _ _ _ _ _ _ _ _ _ _)
      | (with_reducible exact ih3 _ _ _ _ _ _ _ _ _ _ _)
      | (with_reducible exact inode_Key.mono _ _ _ _ _)
      | (with_reducible exact inode_Parse.mono _ _)
      | (with_reducible exact inode_Prefix.mono _ _ _)
      | (with_reducible exact path_Split.mono _ _)
      | (with_reducible exact LeO.refl _)
      | (with_reducible exact LeO.none _)
      | (with_reducible refine LeO.ite ?_ ?_)
      | (with_reducible refine LeO.bind ?_ (fun _ => ?_))
      | exact ih0 _ _ _
      | exact ih1 _ _ _ _ _ _
      | exact ih2 _ _ _ _ _ _ _ _ _ _
      | exact ih3 _ _ _ _ _ _ _ _ _ _ _
      | exact inode_Key.mono _ _ _ _ _
      | exact inode_Parse.mono _ _
      | exact inode_Prefix.mono _ _ _
      | exact path_Split.mono _ _
      | exact LeO.none _
      | refine LeO.ite ?_ ?_
      | refine LeO.bind ?_ (fun _ => ?_)
theorem cambiumtop_TopKeyed.mono : ∀ a0 a1 k, LeO (cambiumtop_TopKeyed.f k a0 a1) (cambiumtop_TopKeyed.f (k + 1) a0 a1) := by
  intro a0 a1 k
  obtain ⟨ih0, ih1, ih2, ih3⟩ := cambiumtop_TopKeyed.mono_l k
  unfold cambiumtop_TopKeyed.f
  repeat' first
      | (with_reducible exact ih0 _ _ _)
      | (with_reducible exact ih1 _ _ _ _ _ _)
      | (with_reducible exact ih2 _ _ _ _ _ _ _ _ _ _)
      | (with_reducible exact ih3 _ _ _ _ _ _ _ _ _ _ _)
      | (with_reducible exact inode_Key.mono _ _ _ _ _)
      | (with_reducible exact inode_Parse.mono _ _)
      | (with_reducible exact inode_Prefix.mono _ _ _)
      | (with_reducible exact path_Split.mono _ _)
      | (with_reducible exact LeO.refl _)
      | (with_reducible exact LeO.none _)
      | (with_reducible refine LeO.ite ?_ ?_)
      | (with_reducible refine LeO.bind ?_ (fun _ => ?_))
      | exact ih0 _ _ _
      | exact ih1 _ _ _ _ _ _
      | exact ih2 _ _ _ _ _ _ _ _ _ _
      | exact ih3 _ _ _ _ _ _ _ _ _ _ _
      | exact inode_Key.mono _ _ _ _ _
      | exact inode_Parse.mono _ _
      | exact inode_Prefix.mono _ _ _
      | exact path_Split.mono _ _
      | exact LeO.none _
      | refine LeO.ite ?_ ?_
      | refine LeO.bind ?_ (fun _ => ?_)
set_option maxHeartbeats 8000000 in
set_option maxRecDepth 100000 in
theorem cambiumtop_TopKeyed.calls (k : Nat) (a0 : ByteArray) (a1 : Int) (r : Bool) (w : World) (h : cambiumtop_TopKeyed.f k a0 a1 = some r) (hT_ : r = true := by rfl) :
    Calls Try.prog 3 #[.string a0, .int .u32 a1] w fun e w' => e = .returned (.bool r) ∧ Below w.heap.size w w' := by
  have HT_ := Aside0.mk hT_
  clear hT_
  have hu33 := Try.underlying33
  have HB := Aside0.mk (Below.refl w.heap.size w)
  have H : ((cambiumtop_begins.f).bind fun t164 => (if t164 = true then ((path_Split.f k a0).bind fun bt165 => (if bt165.2 = 0 then (cambiumtop_TopKeyed.j0 k a1 bt165.1 (a1 == 0)) else (cambiumtop_TopKeyed.j0 k a1 bt165.1 true))) else (some false))) = some r := h
  clear h
  replace H := Option.bind_eq_some_iff.mp H
  obtain ⟨t164, A30, H⟩ := H
  replace H : (if t164 = true then ((path_Split.f k a0).bind fun bt165 => (if bt165.2 = 0 then (cambiumtop_TopKeyed.j0 k a1 bt165.1 (a1 == 0)) else (cambiumtop_TopKeyed.j0 k a1 bt165.1 true))) else (some false)) = some r := H
  have A3 := Aside0.mk A30
  clear A30
  by_cases c4 : t164 = true
  · subst c4
    have H1 : ((path_Split.f k a0).bind fun bt165 => (if bt165.2 = 0 then (cambiumtop_TopKeyed.j0 k a1 bt165.1 (a1 == 0)) else (cambiumtop_TopKeyed.j0 k a1 bt165.1 true))) = some r := by rw [if_pos rfl] at H; exact H
    clear H
    have H := H1
    clear H1
    replace H := Option.bind_eq_some_iff.mp H
    obtain ⟨⟨t165, t166⟩, A50, H⟩ := H
    replace H : (if t166 = 0 then (cambiumtop_TopKeyed.j0 k a1 t165 (a1 == 0)) else (cambiumtop_TopKeyed.j0 k a1 t165 true)) = some r := H
    have A5 := Aside0.mk A50
    clear A50
    have HC6 := Aside0.mk H
    clear H
    go_enter Try.func3, Try.ntmps3
    go_upto_region 4 with (first | ((with_reducible refine gate_callee (f := 4) rfl ?_); refine goesL_ (some 18) rfl rfl Try.func4 (by kernel_rfl) rfl #[] rfl (by (try simp only [List.map_toArray, List.map_cons, List.map_nil]); first | done | rfl | (simp only [List.length_drop, List.length_take]; rfl)) ?_; (with_reducible refine (cambiumtop_begins.calls  true _ A3.out).mono ?_); rintro e w7 ⟨rfl, hb⟩; refine ⟨_, rfl, ?_⟩; have n0_ := Aside0.mk (below_step (by repeat (first | (with_reducible first | exact HB.out | apply below_alloc | apply pw_below_drewN | apply below_drew1) | exact HB.out)) hb); clear HB; have HB := n0_; clear n0_; (try clear hb); (try clear hb2); (try clear hk); (try clear hi)) | ((with_reducible refine gate_callee (f := 5) rfl ?_); refine goesL_ (some 22) rfl rfl Try.func5 (by kernel_rfl) rfl #[.string a0] rfl (by (try simp only [List.map_toArray, List.map_cons, List.map_nil]); first | done | rfl | (simp only [List.length_drop, List.length_take]; rfl)) ?_; (with_reducible refine (path_Split.calls k a0 t165 t166 _ A5.out).mono ?_); rintro e w8 ⟨v167, rfl, ho0, hb⟩; refine ⟨_, rfl, ?_⟩; have n0_ := Aside0.mk (Kd.R_lower ho0 (below_size (by repeat (first | (with_reducible first | exact HB.out | apply below_alloc | apply pw_below_drewN | apply below_drew1) | exact HB.out)))); have n1_ := Aside0.mk (below_step (by repeat (first | (with_reducible first | exact HB.out | apply below_alloc | apply pw_below_drewN | apply below_drew1) | exact HB.out)) hb); clear HB; have HO168 := n0_; have HB := n1_; clear n0_ n1_; (try clear hb); (try clear hb2); (try clear hk); (try clear hi); (try clear ho0)))
    (try simp only [Act.put, List.setIfInBounds_toArray, List.set_cons_zero, List.set_cons_succ])
    go_cut [30] (fun v30 wc => ∃ (kq : Nat) (x30_5 : Bool), v30 = .bool x30_5 ∧ Aside0 (cambiumtop_TopKeyed.j0 kq a1 t165 x30_5 = some r) ∧ Aside0 (kq ≤ k) ∧ Aside0 (Kd.R Kd.string 9 wc w.heap.size (fun _ => True) v167 t165) ∧ Aside0 (Below w.heap.size w wc))
    case first =>
      have H := HC6.out
      clear HC6
      by_cases c9 : t166 = 0
      · rw [if_pos c9] at H
        have c9b0 : (t166 == 0) = true := beq_iff_eq.mpr c9
        have c9b1 : (t166 != 0) = false := bne_eq_false_iff_eq.mpr c9
        clear c9
        (first | rw [c9b0] | (simp only [i64_w, i32_w]; rw [c9b0]) | skip)
        have H' := Aside0.mk H
        clear H
        go_wp2
        go_meet
        case rel => exact ⟨_, ((a1 == 0)), (by first | rfl | (simp; done) | (simp [*]; done)), H', ⟨by first | omega | exact Nat.le_refl _⟩, ⟨by (with_reducible repeat (first | apply Kd.R_alloc | apply Kd.R_drewN | apply Kd.R_drew)); exact HO168.out⟩, ⟨by repeat (first | (with_reducible first | exact HB.out | apply below_alloc | apply pw_below_drewN | apply below_drew1) | exact HB.out)⟩⟩
      · rw [if_neg c9] at H
        have c9b0 : (t166 == 0) = false := beq_eq_false_iff_ne.mpr c9
        have c9b1 : (t166 != 0) = true := bne_iff_ne.mpr c9
        (first | rw [c9b0] | (simp only [i64_w, i32_w]; rw [c9b0]) | skip)
        have H' := Aside0.mk H
        clear H
        go_wp2
        go_meet
        case rel => exact ⟨_, (true), (by first | rfl | (simp; done) | (simp [*]; done)), H', ⟨by first | omega | exact Nat.le_refl _⟩, ⟨by (with_reducible repeat (first | apply Kd.R_alloc | apply Kd.R_drewN | apply Kd.R_drew)); exact HO168.out⟩, ⟨by repeat (first | (with_reducible first | exact HB.out | apply below_alloc | apply pw_below_drewN | apply below_drew1) | exact HB.out)⟩⟩
    case rest =>
      clear HC6
      try clear p2
      try clear c3
      try clear c4
      try clear c5
      try clear c9
      try clear c9b0
      try clear c9b1
      obtain ⟨kq, x30_5, rfl, HA, HJ5, HO_5, HB⟩ := hcut
      cases kq with
      | zero => exact absurd HA.out (by simp [cambiumtop_TopKeyed.j0])
      | succ kj5 =>
        have H := HA.out
        clear HA
        simp only [cambiumtop_TopKeyed.j0] at H
        by_cases c10 : x30_5 = true
        · subst c10
          have H1 : (some true) = some r := by rw [if_pos rfl] at H; exact H
          clear H
          have H := H1
          clear H1
          obtain rfl := Option.some.inj H
          go_wp2
          go_ret
          exact ⟨by first | rfl | (simp [errW_none, errW_some] <;> rfl) | (simp [*, errW_none, errW_some] <;> rfl), by repeat (first | (with_reducible first | exact HB.out | apply below_alloc | apply pw_below_drewN | apply below_drew1) | exact HB.out)⟩
        · replace c10 := Bool.eq_false_iff.mpr c10
          subst c10
          have H1 : ((inode_Prefix.f kj5 2 a1).bind fun t169 => (cambiumtop_TopKeyed.l0 kj5 a1 t165 t169 t165 (t165.length : Int) 0)) = some r := by rw [if_neg (show ¬ (false = true) by decide)] at H; exact H
          clear H
          have H := H1
          clear H1
          replace H := Option.bind_eq_some_iff.mp H
          obtain ⟨t169, A110, H⟩ := H
          replace H : (cambiumtop_TopKeyed.l0 kj5 a1 t165 t169 t165 (t165.length : Int) 0) = some r := H
          have A11 := Aside0.mk A110
          clear A110
          have H' := Aside0.mk H
          clear H
          go_wp2_with (first | ((with_reducible refine gate_callee (f := 6) rfl ?_); refine goesL_ (some 32) rfl rfl Try.func6 (by kernel_rfl) rfl #[.int .u8 2, .int .u32 a1] rfl (by (try simp only [List.map_toArray, List.map_cons, List.map_nil]); first | done | rfl | (simp only [List.length_drop, List.length_take]; rfl)) ?_; (with_reducible refine (inode_Prefix.calls kj5 2 a1 t169 _ A11.out).mono ?_); rintro e w12 ⟨rfl, hb⟩; refine ⟨_, rfl, ?_⟩; have n0_ := Aside0.mk (Kd.R_below (by (with_reducible repeat (first | apply Kd.R_alloc | apply Kd.R_drewN | apply Kd.R_drew)); exact HO_5.out) hb); have n1_ := Aside0.mk (below_step (by repeat (first | (with_reducible first | exact HB.out | apply below_alloc | apply pw_below_drewN | apply below_drew1) | exact HB.out)) hb); clear HO_5; clear HB; have HO_5 := n0_; have HB := n1_; clear n0_ n1_; (try clear hb); (try clear hb2); (try clear hk); (try clear hi); obtain ⟨Ao13, co13, eo13⟩ := Kd.R_slice HO_5.out; subst eo13))
          go_loopg [35] kj5 (fun kq v35 w' => ∃ (x35_2 : Int), v35 = .int .i64 x35_2 ∧ Aside0 (cambiumtop_TopKeyed.l0 kq a1 t165 t169 t165 (t165.length : Int) x35_2 = some r) ∧ Aside0 (kq ≤ kj5) ∧ Aside0 (Kd.R Kd.string 9 w' w.heap.size (fun _ => True) (.slice Ao13 t165.length co13) t165) ∧ Aside0 (Kd.R Kd.string 9 w' w.heap.size (fun _ => True) (.slice Ao13 t165.length co13) t165) ∧ Aside0 (Below w.heap.size w w'))
          case atStart => exact ⟨(0), (by first | rfl | (simp; done) | (simp [*]; done)), H', ⟨Nat.le_refl _⟩, ⟨by (with_reducible repeat (first | apply Kd.R_alloc | apply Kd.R_drewN | apply Kd.R_drew)); exact HO_5.out⟩, ⟨by (with_reducible repeat (first | apply Kd.R_alloc | apply Kd.R_drewN | apply Kd.R_drew)); exact HO_5.out⟩, ⟨by repeat (first | (with_reducible first | exact HB.out | apply below_alloc | apply pw_below_drewN | apply below_drew1) | exact HB.out)⟩⟩
          case round =>
            clear H'
            try clear c1
            try clear p2
            try clear c3
            try clear c4
            try clear c5
            try clear c6
            try clear c9
            try clear c9b0
            try clear c9b1
            try clear c10
            try clear p2
            obtain ⟨x35_2, rfl, HA, HK2, HO_5, HO_33, HB⟩ := hrel
            cases gk with
            | zero => exact absurd HA.out (by simp [cambiumtop_TopKeyed.l0])
            | succ k2 =>
              have H := HA.out
              clear HA
              simp only [cambiumtop_TopKeyed.l0] at H
              by_cases c14 : x35_2 < (t165.length : Int)
              · rw [if_pos c14] at H
                have c14b0 : decide (x35_2 < (t165.length : Int)) = true := decide_eq_true c14
                clear c14
                by_cases c15 : 0 ≤ x35_2
                · rw [if_pos c15] at H
                  have c15b0 : decide (0 ≤ x35_2) = true := decide_eq_true c15
                  clear c15
                  by_cases c16 : x35_2 < (t165.length : Int)
                  · rw [if_pos c16] at H
                    have c16b0 : decide (x35_2 < (t165.length : Int)) = true := decide_eq_true c16
                    clear c16
                    replace H := Option.bind_eq_some_iff.mp H
                    obtain ⟨⟨t171, t172⟩, A170, H⟩ := H
                    replace H : ((inode_Parse.f k2 t171).bind fun bt173 => (if t172 = 0 then (if 0 ≤ (t169.size : Int) then (if (t169.size : Int) ≤ (t171.size : Int) then (if (t171.extract 0 ((t169.size : Int) : Int).toNat).toList = t169.toList then (if bt173.2.2.2.2 = 0 then (if bt173.2.2.1.toList = (rdOf ByteArray.empty t165 x35_2).toList then (cambiumtop_TopKeyed.j2 k2 a1 t165 t169 x35_2 (rdOf ByteArray.empty t165 x35_2) t171 t165 (t165.length : Int) x35_2 (bt173.2.1 != a1)) else (cambiumtop_TopKeyed.j2 k2 a1 t165 t169 x35_2 (rdOf ByteArray.empty t165 x35_2) t171 t165 (t165.length : Int) x35_2 true)) else (cambiumtop_TopKeyed.j2 k2 a1 t165 t169 x35_2 (rdOf ByteArray.empty t165 x35_2) t171 t165 (t165.length : Int) x35_2 true)) else (cambiumtop_TopKeyed.j2 k2 a1 t165 t169 x35_2 (rdOf ByteArray.empty t165 x35_2) t171 t165 (t165.length : Int) x35_2 true)) else (none)) else (none)) else (cambiumtop_TopKeyed.j2 k2 a1 t165 t169 x35_2 (rdOf ByteArray.empty t165 x35_2) t171 t165 (t165.length : Int) x35_2 true))) = some r := H
                    have A17 := Aside0.mk A170
                    clear A170
                    replace H := Option.bind_eq_some_iff.mp H
                    obtain ⟨⟨t173, t174, t175, t176, t177⟩, A180, H⟩ := H
                    replace H : (if t172 = 0 then (if 0 ≤ (t169.size : Int) then (if (t169.size : Int) ≤ (t171.size : Int) then (if (t171.extract 0 ((t169.size : Int) : Int).toNat).toList = t169.toList then (if t177 = 0 then (if t175.toList = (rdOf ByteArray.empty t165 x35_2).toList then (cambiumtop_TopKeyed.j2 k2 a1 t165 t169 x35_2 (rdOf ByteArray.empty t165 x35_2) t171 t165 (t165.length : Int) x35_2 (t174 != a1)) else (cambiumtop_TopKeyed.j2 k2 a1 t165 t169 x35_2 (rdOf ByteArray.empty t165 x35_2) t171 t165 (t165.length : Int) x35_2 true)) else (cambiumtop_TopKeyed.j2 k2 a1 t165 t169 x35_2 (rdOf ByteArray.empty t165 x35_2) t171 t165 (t165.length : Int) x35_2 true)) else (cambiumtop_TopKeyed.j2 k2 a1 t165 t169 x35_2 (rdOf ByteArray.empty t165 x35_2) t171 t165 (t165.length : Int) x35_2 true)) else (none)) else (none)) else (cambiumtop_TopKeyed.j2 k2 a1 t165 t169 x35_2 (rdOf ByteArray.empty t165 x35_2) t171 t165 (t165.length : Int) x35_2 true)) = some r := H
                    have A18 := Aside0.mk A180
                    clear A180
                    have HC19 := Aside0.mk H
                    clear H
                    have p170 : 0 ≤ (x35_2 : Int) := of_decide_eq_true (by first | (with_reducible assumption) | assumption)
                    have q170 : x35_2 < (t165.length : Int) := of_decide_eq_true (by first | (with_reducible assumption) | assumption)
                    obtain ⟨ad170, e170, hx170_0⟩ := Kd.at_string (Kd.R_reads' HO_33.out).2.2 x35_2 p170 q170
                    cases e170
                    replace p170 := eq_true p170
                    replace q170 := eq_true q170
                    go_upto_region 12 with (first | ((with_reducible refine gate_callee (f := 7) rfl ?_); refine goesL_ (some 44) rfl rfl Try.func7 (by kernel_rfl) rfl #[.agg #[.int .u8 2, .int .u32 a1, .string (rdOf ByteArray.empty t165 x35_2), .int .u32 0]] rfl (by (try simp only [List.map_toArray, List.map_cons, List.map_nil]); first | done | rfl | (simp only [List.length_drop, List.length_take]; rfl)) ?_; (with_reducible refine (inode_Key.calls k2 2 a1 (rdOf ByteArray.empty t165 x35_2) 0 t171 t172 _ A17.out).mono ?_); rintro e w20 ⟨rfl, hb⟩; refine ⟨_, rfl, ?_⟩; have n0_ := Aside0.mk (Kd.R_below (by (with_reducible repeat (first | apply Kd.R_alloc | apply Kd.R_drewN | apply Kd.R_drew)); exact HO_5.out) hb); have n1_ := Aside0.mk (Kd.R_below (by (with_reducible repeat (first | apply Kd.R_alloc | apply Kd.R_drewN | apply Kd.R_drew)); exact HO_33.out) hb); have n2_ := Aside0.mk (below_step (by repeat (first | (with_reducible first | exact HB.out | apply below_alloc | apply pw_below_drewN | apply below_drew1) | exact HB.out)) hb); clear HO_5; clear HO_33; clear HB; have HO_5 := n0_; have HO_33 := n1_; have HB := n2_; clear n0_ n1_ n2_; (try clear hb); (try clear hb2); (try clear hk); (try clear hi)) | ((with_reducible refine gate_callee (f := 8) rfl ?_); refine goesL_ (some 49) rfl rfl Try.func8 (by kernel_rfl) rfl #[.string t171] rfl (by (try simp only [List.map_toArray, List.map_cons, List.map_nil]); first | done | rfl | (simp only [List.length_drop, List.length_take]; rfl)) ?_; (with_reducible refine (inode_Parse.calls k2 t171 t173 t174 t175 t176 t177 _ A18.out).mono ?_); rintro e w21 ⟨rfl, hb⟩; refine ⟨_, rfl, ?_⟩; have n0_ := Aside0.mk (Kd.R_below (by (with_reducible repeat (first | apply Kd.R_alloc | apply Kd.R_drewN | apply Kd.R_drew)); exact HO_5.out) hb); have n1_ := Aside0.mk (Kd.R_below (by (with_reducible repeat (first | apply Kd.R_alloc | apply Kd.R_drewN | apply Kd.R_drew)); exact HO_33.out) hb); have n2_ := Aside0.mk (below_step (by repeat (first | (with_reducible first | exact HB.out | apply below_alloc | apply pw_below_drewN | apply below_drew1) | exact HB.out)) hb); clear HO_5; clear HO_33; clear HB; have HO_5 := n0_; have HO_33 := n1_; have HB := n2_; clear n0_ n1_ n2_; (try clear hb); (try clear hb2); (try clear hk); (try clear hi)) | ((with_reducible refine gate_dst (N := 12) rfl ?_); (try (refine gate_guard (by rfl) ?_; dsimp only)); refine box_event ?hg (N := 12) ?hd (cs := #[.int .u8 0, .int .u32 0, .string (⟨#[]⟩ : ByteArray), .int .u32 0]) (t := 33) ?hr ?_; (case hd => rfl); (case hg => rfl); (case hr => first | (go_simp; done) | (go_simp; rfl)); intro gb178 hg w22 hbox hb; have n0_ := Aside0.mk (Kd.R_below (by (with_reducible repeat (first | apply Kd.R_alloc | apply Kd.R_drewN | apply Kd.R_drew)); exact HO_5.out) hb); have n1_ := Aside0.mk (Kd.R_below (by (with_reducible repeat (first | apply Kd.R_alloc | apply Kd.R_drewN | apply Kd.R_drew)); exact HO_33.out) hb); have n2_ := Aside0.mk (below_step (by repeat (first | (with_reducible first | exact HB.out | apply below_alloc | apply pw_below_drewN | apply below_drew1) | exact HB.out)) hb); have n3_ := Aside0.mk (hbox); have n4_ := Aside0.mk ((by rw [hg]; exact (below_size (by repeat (first | (with_reducible first | exact HB.out | apply below_alloc | apply pw_below_drewN | apply below_drew1) | exact HB.out))) : w.heap.size ≤ gb178)); have n5_ := Aside0.mk ((by rw [hg]; exact (below_size (by repeat (first | (with_reducible first | exact HB.out | apply below_alloc | apply pw_below_drewN | apply below_drew1) | exact HB.out))) : w.heap.size ≤ gb178)); clear HO_5; clear HO_33; clear HB; have HO_5 := n0_; have HO_33 := n1_; have HB := n2_; have BK178 := n3_; have GW178 := n4_; have GE178 := n5_; clear n0_ n1_ n2_ n3_ n4_ n5_; clear hb hbox hg; have hcz23_0 : w22.cell? ⟨gb178, 0, none⟩ = some (.int .u8 0) := (blk_cell BK178.out 0).trans rfl; have hcz23_1 : w22.cell? ⟨gb178, 1, none⟩ = some (.int .u32 0) := (blk_cell BK178.out 1).trans rfl; have hcz23_2 : w22.cell? ⟨gb178, 2, none⟩ = some (.string (⟨#[]⟩ : ByteArray)) := (blk_cell BK178.out 2).trans rfl; have hcz23_3 : w22.cell? ⟨gb178, 3, none⟩ = some (.int .u32 0) := (blk_cell BK178.out 3).trans rfl; have hfz23_0 := blk_frozen BK178.out 0; have hfz23_1 := blk_frozen BK178.out 1; have hfz23_2 := blk_frozen BK178.out 2; have hfz23_3 := blk_frozen BK178.out 3))
                    (try simp only [Act.put, List.setIfInBounds_toArray, List.set_cons_zero, List.set_cons_succ])
                    go_cut [77] (fun v77 wc => ∃ (kq : Nat) (x77_18 : Bool), v77 = .bool x77_18 ∧ Aside0 (cambiumtop_TopKeyed.j2 kq a1 t165 t169 x35_2 (rdOf ByteArray.empty t165 x35_2) t171 t165 (t165.length : Int) x35_2 x77_18 = some r) ∧ Aside0 (kq ≤ k2) ∧ Aside0 (Kd.R Kd.string 9 wc w.heap.size (fun _ => True) (.slice (some ad170) t165.length co13) t165) ∧ Aside0 (Kd.R Kd.string 9 wc w.heap.size (fun _ => True) (.slice (some ad170) t165.length co13) t165) ∧ Aside0 (wc.heap[gb178]? = some (.cells #[.int .u8 t173, .int .u32 t174, .string t175, .int .u32 t176] 33 (0, 0))) ∧ Aside0 (Below w.heap.size w wc))
                    case first =>
                      have H := HC19.out
                      clear HC19
                      by_cases c24 : t172 = 0
                      · rw [if_pos c24] at H
                        have c24b0 : (t172 == 0) = true := beq_iff_eq.mpr c24
                        have c24b1 : (t172 != 0) = false := bne_eq_false_iff_eq.mpr c24
                        clear c24
                        (first | rw [c24b0] | (simp only [i64_w, i32_w]; rw [c24b0]) | skip)
                        by_cases c25 : 0 ≤ (t169.size : Int)
                        · rw [if_pos c25] at H
                          have c25b0 := eq_true c25
                          have c25b1 : decide (0 ≤ (t169.size : Int)) = true := decide_eq_true c25
                          clear c25
                          by_cases c26 : (t169.size : Int) ≤ (t171.size : Int)
                          · rw [if_pos c26] at H
                            have c26b0 := eq_true c26
                            have c26b1 : decide ((t169.size : Int) ≤ (t171.size : Int)) = true := decide_eq_true c26
                            clear c26
                            by_cases c27 : (t171.extract 0 ((t169.size : Int) : Int).toNat).toList = t169.toList
                            · rw [if_pos c27] at H
                              have c27b0 : ((t171.extract 0 ((t169.size : Int) : Int).toNat).toList == t169.toList) = true := beq_iff_eq.mpr c27
                              (try simp only [Int.toNat_natCast] at c27b0)
                              have c27b1 : ((t171.extract 0 ((t169.size : Int) : Int).toNat).toList != t169.toList) = false := bne_eq_false_iff_eq.mpr c27
                              (try simp only [Int.toNat_natCast] at c27b1)
                              clear c27
                              by_cases c28 : t177 = 0
                              · rw [if_pos c28] at H
                                have c28b0 : (t177 == 0) = true := beq_iff_eq.mpr c28
                                have c28b1 : (t177 != 0) = false := bne_eq_false_iff_eq.mpr c28
                                clear c28
                                by_cases c29 : t175.toList = (rdOf ByteArray.empty t165 x35_2).toList
                                · rw [if_pos c29] at H
                                  have c29b0 : (t175.toList == (rdOf ByteArray.empty t165 x35_2).toList) = true := beq_iff_eq.mpr c29
                                  have c29b1 : (t175.toList != (rdOf ByteArray.empty t165 x35_2).toList) = false := bne_eq_false_iff_eq.mpr c29
                                  clear c29
                                  have H' := Aside0.mk H
                                  clear H
                                  have hcz30_0 : w22.cell? ⟨gb178, 0, none⟩ = some (.int .u8 0) := (blk_cell BK178.out 0).trans rfl
                                  have hcz30_1 : w22.cell? ⟨gb178, 1, none⟩ = some (.int .u32 0) := (blk_cell BK178.out 1).trans rfl
                                  have hcz30_2 : w22.cell? ⟨gb178, 2, none⟩ = some (.string (⟨#[]⟩ : ByteArray)) := (blk_cell BK178.out 2).trans rfl
                                  have hcz30_3 : w22.cell? ⟨gb178, 3, none⟩ = some (.int .u32 0) := (blk_cell BK178.out 3).trans rfl
                                  have hfz30_0 := blk_frozen BK178.out 0
                                  have hfz30_1 := blk_frozen BK178.out 1
                                  have hfz30_2 := blk_frozen BK178.out 2
                                  have hfz30_3 := blk_frozen BK178.out 3
                                  go_wp2
                                  go_meet
                                  case rel => exact ⟨_, ((t174 != a1)), (by first | rfl | (simp; done) | (simp [*]; done)), H', ⟨by have := HJ5.out; have := HK2.out; first | omega | exact Nat.le_refl _⟩, ⟨by (with_reducible repeat (first | apply Kd.R_alloc | apply Kd.R_drewN | apply Kd.R_drew)); exact Kd.R_mono (Kd.R_far (p := ⟨gb178, 3, none⟩) (Kd.R_far (p := ⟨gb178, 2, none⟩) (Kd.R_far (p := ⟨gb178, 1, none⟩) (Kd.R_far (p := ⟨gb178, 0, none⟩) (Kd.R_types HO_5.out BK178.out (by decide)) (fun _ hk => hk.2) (.int .u8 t173)) (fun _ hk => hk.2) (.int .u32 t174)) (fun _ hk => hk.2) (.string t175)) (fun _ hk => hk.2) (.int .u32 t176)) (fun _ hk => trivial)⟩, ⟨by (with_reducible repeat (first | apply Kd.R_alloc | apply Kd.R_drewN | apply Kd.R_drew)); exact Kd.R_mono (Kd.R_far (p := ⟨gb178, 3, none⟩) (Kd.R_far (p := ⟨gb178, 2, none⟩) (Kd.R_far (p := ⟨gb178, 1, none⟩) (Kd.R_far (p := ⟨gb178, 0, none⟩) (Kd.R_types HO_33.out BK178.out (by decide)) (fun _ hk => hk.2) (.int .u8 t173)) (fun _ hk => hk.2) (.int .u32 t174)) (fun _ hk => hk.2) (.string t175)) (fun _ hk => hk.2) (.int .u32 t176)) (fun _ hk => trivial)⟩, ⟨by (with_reducible repeat (first | refine blk_drewN ?_ _ | refine blk_drew ?_ | refine blk_alloc ?_ _)); refine blk_put (cs := #[.int .u8 t173, .int .u32 t174, .string t175, .int .u32 0]) ?_ 3 _ rfl; (with_reducible repeat (first | refine blk_drewN ?_ _ | refine blk_drew ?_ | refine blk_alloc ?_ _)); refine blk_put (cs := #[.int .u8 t173, .int .u32 t174, .string (⟨#[]⟩ : ByteArray), .int .u32 0]) ?_ 2 _ rfl; (with_reducible repeat (first | refine blk_drewN ?_ _ | refine blk_drew ?_ | refine blk_alloc ?_ _)); refine blk_put (cs := #[.int .u8 t173, .int .u32 0, .string (⟨#[]⟩ : ByteArray), .int .u32 0]) ?_ 1 _ rfl; (with_reducible repeat (first | refine blk_drewN ?_ _ | refine blk_drew ?_ | refine blk_alloc ?_ _)); refine blk_put (cs := #[.int .u8 0, .int .u32 0, .string (⟨#[]⟩ : ByteArray), .int .u32 0]) ?_ 0 _ rfl; (with_reducible repeat (first | refine blk_drewN ?_ _ | refine blk_drew ?_ | refine blk_alloc ?_ _)); exact BK178.out⟩, ⟨by repeat (first | (with_reducible first | exact HB.out | apply below_alloc | apply pw_below_drewN | apply below_drew1 | refine below_set ?_ GE178.out) | exact HB.out)⟩⟩
                                · rw [if_neg c29] at H
                                  have c29b0 : (t175.toList == (rdOf ByteArray.empty t165 x35_2).toList) = false := beq_eq_false_iff_ne.mpr c29
                                  have c29b1 : (t175.toList != (rdOf ByteArray.empty t165 x35_2).toList) = true := bne_iff_ne.mpr c29
                                  have H' := Aside0.mk H
                                  clear H
                                  have hcz31_0 : w22.cell? ⟨gb178, 0, none⟩ = some (.int .u8 0) := (blk_cell BK178.out 0).trans rfl
                                  have hcz31_1 : w22.cell? ⟨gb178, 1, none⟩ = some (.int .u32 0) := (blk_cell BK178.out 1).trans rfl
                                  have hcz31_2 : w22.cell? ⟨gb178, 2, none⟩ = some (.string (⟨#[]⟩ : ByteArray)) := (blk_cell BK178.out 2).trans rfl
                                  have hcz31_3 : w22.cell? ⟨gb178, 3, none⟩ = some (.int .u32 0) := (blk_cell BK178.out 3).trans rfl
                                  have hfz31_0 := blk_frozen BK178.out 0
                                  have hfz31_1 := blk_frozen BK178.out 1
                                  have hfz31_2 := blk_frozen BK178.out 2
                                  have hfz31_3 := blk_frozen BK178.out 3
                                  go_wp2
                                  go_meet
                                  case rel => exact ⟨_, (true), (by first | rfl | (simp; done) | (simp [*]; done)), H', ⟨by have := HJ5.out; have := HK2.out; first | omega | exact Nat.le_refl _⟩, ⟨by (with_reducible repeat (first | apply Kd.R_alloc | apply Kd.R_drewN | apply Kd.R_drew)); exact Kd.R_mono (Kd.R_far (p := ⟨gb178, 3, none⟩) (Kd.R_far (p := ⟨gb178, 2, none⟩) (Kd.R_far (p := ⟨gb178, 1, none⟩) (Kd.R_far (p := ⟨gb178, 0, none⟩) (Kd.R_types HO_5.out BK178.out (by decide)) (fun _ hk => hk.2) (.int .u8 t173)) (fun _ hk => hk.2) (.int .u32 t174)) (fun _ hk => hk.2) (.string t175)) (fun _ hk => hk.2) (.int .u32 t176)) (fun _ hk => trivial)⟩, ⟨by (with_reducible repeat (first | apply Kd.R_alloc | apply Kd.R_drewN | apply Kd.R_drew)); exact Kd.R_mono (Kd.R_far (p := ⟨gb178, 3, none⟩) (Kd.R_far (p := ⟨gb178, 2, none⟩) (Kd.R_far (p := ⟨gb178, 1, none⟩) (Kd.R_far (p := ⟨gb178, 0, none⟩) (Kd.R_types HO_33.out BK178.out (by decide)) (fun _ hk => hk.2) (.int .u8 t173)) (fun _ hk => hk.2) (.int .u32 t174)) (fun _ hk => hk.2) (.string t175)) (fun _ hk => hk.2) (.int .u32 t176)) (fun _ hk => trivial)⟩, ⟨by (with_reducible repeat (first | refine blk_drewN ?_ _ | refine blk_drew ?_ | refine blk_alloc ?_ _)); refine blk_put (cs := #[.int .u8 t173, .int .u32 t174, .string t175, .int .u32 0]) ?_ 3 _ rfl; (with_reducible repeat (first | refine blk_drewN ?_ _ | refine blk_drew ?_ | refine blk_alloc ?_ _)); refine blk_put (cs := #[.int .u8 t173, .int .u32 t174, .string (⟨#[]⟩ : ByteArray), .int .u32 0]) ?_ 2 _ rfl; (with_reducible repeat (first | refine blk_drewN ?_ _ | refine blk_drew ?_ | refine blk_alloc ?_ _)); refine blk_put (cs := #[.int .u8 t173, .int .u32 0, .string (⟨#[]⟩ : ByteArray), .int .u32 0]) ?_ 1 _ rfl; (with_reducible repeat (first | refine blk_drewN ?_ _ | refine blk_drew ?_ | refine blk_alloc ?_ _)); refine blk_put (cs := #[.int .u8 0, .int .u32 0, .string (⟨#[]⟩ : ByteArray), .int .u32 0]) ?_ 0 _ rfl; (with_reducible repeat (first | refine blk_drewN ?_ _ | refine blk_drew ?_ | refine blk_alloc ?_ _)); exact BK178.out⟩, ⟨by repeat (first | (with_reducible first | exact HB.out | apply below_alloc | apply pw_below_drewN | apply below_drew1 | refine below_set ?_ GE178.out) | exact HB.out)⟩⟩
                              · rw [if_neg c28] at H
                                have c28b0 : (t177 == 0) = false := beq_eq_false_iff_ne.mpr c28
                                have c28b1 : (t177 != 0) = true := bne_iff_ne.mpr c28
                                have H' := Aside0.mk H
                                clear H
                                go_wp2
                                go_meet
                                case rel => exact ⟨_, (true), (by first | rfl | (simp; done) | (simp [*]; done)), H', ⟨by have := HJ5.out; have := HK2.out; first | omega | exact Nat.le_refl _⟩, ⟨by (with_reducible repeat (first | apply Kd.R_alloc | apply Kd.R_drewN | apply Kd.R_drew)); exact Kd.R_mono (Kd.R_far (p := ⟨gb178, 3, none⟩) (Kd.R_far (p := ⟨gb178, 2, none⟩) (Kd.R_far (p := ⟨gb178, 1, none⟩) (Kd.R_far (p := ⟨gb178, 0, none⟩) (Kd.R_types HO_5.out BK178.out (by decide)) (fun _ hk => hk.2) (.int .u8 t173)) (fun _ hk => hk.2) (.int .u32 t174)) (fun _ hk => hk.2) (.string t175)) (fun _ hk => hk.2) (.int .u32 t176)) (fun _ hk => trivial)⟩, ⟨by (with_reducible repeat (first | apply Kd.R_alloc | apply Kd.R_drewN | apply Kd.R_drew)); exact Kd.R_mono (Kd.R_far (p := ⟨gb178, 3, none⟩) (Kd.R_far (p := ⟨gb178, 2, none⟩) (Kd.R_far (p := ⟨gb178, 1, none⟩) (Kd.R_far (p := ⟨gb178, 0, none⟩) (Kd.R_types HO_33.out BK178.out (by decide)) (fun _ hk => hk.2) (.int .u8 t173)) (fun _ hk => hk.2) (.int .u32 t174)) (fun _ hk => hk.2) (.string t175)) (fun _ hk => hk.2) (.int .u32 t176)) (fun _ hk => trivial)⟩, ⟨by (with_reducible repeat (first | refine blk_drewN ?_ _ | refine blk_drew ?_ | refine blk_alloc ?_ _)); refine blk_put (cs := #[.int .u8 t173, .int .u32 t174, .string t175, .int .u32 0]) ?_ 3 _ rfl; (with_reducible repeat (first | refine blk_drewN ?_ _ | refine blk_drew ?_ | refine blk_alloc ?_ _)); refine blk_put (cs := #[.int .u8 t173, .int .u32 t174, .string (⟨#[]⟩ : ByteArray), .int .u32 0]) ?_ 2 _ rfl; (with_reducible repeat (first | refine blk_drewN ?_ _ | refine blk_drew ?_ | refine blk_alloc ?_ _)); refine blk_put (cs := #[.int .u8 t173, .int .u32 0, .string (⟨#[]⟩ : ByteArray), .int .u32 0]) ?_ 1 _ rfl; (with_reducible repeat (first | refine blk_drewN ?_ _ | refine blk_drew ?_ | refine blk_alloc ?_ _)); refine blk_put (cs := #[.int .u8 0, .int .u32 0, .string (⟨#[]⟩ : ByteArray), .int .u32 0]) ?_ 0 _ rfl; (with_reducible repeat (first | refine blk_drewN ?_ _ | refine blk_drew ?_ | refine blk_alloc ?_ _)); exact BK178.out⟩, ⟨by repeat (first | (with_reducible first | exact HB.out | apply below_alloc | apply pw_below_drewN | apply below_drew1 | refine below_set ?_ GE178.out) | exact HB.out)⟩⟩
                            · rw [if_neg c27] at H
                              have c27b0 : ((t171.extract 0 ((t169.size : Int) : Int).toNat).toList == t169.toList) = false := beq_eq_false_iff_ne.mpr c27
                              (try simp only [Int.toNat_natCast] at c27b0)
                              have c27b1 : ((t171.extract 0 ((t169.size : Int) : Int).toNat).toList != t169.toList) = true := bne_iff_ne.mpr c27
                              (try simp only [Int.toNat_natCast] at c27b1)
                              have H' := Aside0.mk H
                              clear H
                              go_wp2
                              go_meet
                              case rel => exact ⟨_, (true), (by first | rfl | (simp; done) | (simp [*]; done)), H', ⟨by have := HJ5.out; have := HK2.out; first | omega | exact Nat.le_refl _⟩, ⟨by (with_reducible repeat (first | apply Kd.R_alloc | apply Kd.R_drewN | apply Kd.R_drew)); exact Kd.R_mono (Kd.R_far (p := ⟨gb178, 3, none⟩) (Kd.R_far (p := ⟨gb178, 2, none⟩) (Kd.R_far (p := ⟨gb178, 1, none⟩) (Kd.R_far (p := ⟨gb178, 0, none⟩) (Kd.R_types HO_5.out BK178.out (by decide)) (fun _ hk => hk.2) (.int .u8 t173)) (fun _ hk => hk.2) (.int .u32 t174)) (fun _ hk => hk.2) (.string t175)) (fun _ hk => hk.2) (.int .u32 t176)) (fun _ hk => trivial)⟩, ⟨by (with_reducible repeat (first | apply Kd.R_alloc | apply Kd.R_drewN | apply Kd.R_drew)); exact Kd.R_mono (Kd.R_far (p := ⟨gb178, 3, none⟩) (Kd.R_far (p := ⟨gb178, 2, none⟩) (Kd.R_far (p := ⟨gb178, 1, none⟩) (Kd.R_far (p := ⟨gb178, 0, none⟩) (Kd.R_types HO_33.out BK178.out (by decide)) (fun _ hk => hk.2) (.int .u8 t173)) (fun _ hk => hk.2) (.int .u32 t174)) (fun _ hk => hk.2) (.string t175)) (fun _ hk => hk.2) (.int .u32 t176)) (fun _ hk => trivial)⟩, ⟨by (with_reducible repeat (first | refine blk_drewN ?_ _ | refine blk_drew ?_ | refine blk_alloc ?_ _)); refine blk_put (cs := #[.int .u8 t173, .int .u32 t174, .string t175, .int .u32 0]) ?_ 3 _ rfl; (with_reducible repeat (first | refine blk_drewN ?_ _ | refine blk_drew ?_ | refine blk_alloc ?_ _)); refine blk_put (cs := #[.int .u8 t173, .int .u32 t174, .string (⟨#[]⟩ : ByteArray), .int .u32 0]) ?_ 2 _ rfl; (with_reducible repeat (first | refine blk_drewN ?_ _ | refine blk_drew ?_ | refine blk_alloc ?_ _)); refine blk_put (cs := #[.int .u8 t173, .int .u32 0, .string (⟨#[]⟩ : ByteArray), .int .u32 0]) ?_ 1 _ rfl; (with_reducible repeat (first | refine blk_drewN ?_ _ | refine blk_drew ?_ | refine blk_alloc ?_ _)); refine blk_put (cs := #[.int .u8 0, .int .u32 0, .string (⟨#[]⟩ : ByteArray), .int .u32 0]) ?_ 0 _ rfl; (with_reducible repeat (first | refine blk_drewN ?_ _ | refine blk_drew ?_ | refine blk_alloc ?_ _)); exact BK178.out⟩, ⟨by repeat (first | (with_reducible first | exact HB.out | apply below_alloc | apply pw_below_drewN | apply below_drew1 | refine below_set ?_ GE178.out) | exact HB.out)⟩⟩
                          · rw [if_neg c26] at H
                            exact absurd H (by simp)
                        · rw [if_neg c25] at H
                          exact absurd H (by simp)
                      · rw [if_neg c24] at H
                        have c24b0 : (t172 == 0) = false := beq_eq_false_iff_ne.mpr c24
                        have c24b1 : (t172 != 0) = true := bne_iff_ne.mpr c24
                        (first | rw [c24b0] | (simp only [i64_w, i32_w]; rw [c24b0]) | skip)
                        have H' := Aside0.mk H
                        clear H
                        go_wp2
                        go_meet
                        case rel => exact ⟨_, (true), (by first | rfl | (simp; done) | (simp [*]; done)), H', ⟨by have := HJ5.out; have := HK2.out; first | omega | exact Nat.le_refl _⟩, ⟨by (with_reducible repeat (first | apply Kd.R_alloc | apply Kd.R_drewN | apply Kd.R_drew)); exact Kd.R_mono (Kd.R_far (p := ⟨gb178, 3, none⟩) (Kd.R_far (p := ⟨gb178, 2, none⟩) (Kd.R_far (p := ⟨gb178, 1, none⟩) (Kd.R_far (p := ⟨gb178, 0, none⟩) (Kd.R_types HO_5.out BK178.out (by decide)) (fun _ hk => hk.2) (.int .u8 t173)) (fun _ hk => hk.2) (.int .u32 t174)) (fun _ hk => hk.2) (.string t175)) (fun _ hk => hk.2) (.int .u32 t176)) (fun _ hk => trivial)⟩, ⟨by (with_reducible repeat (first | apply Kd.R_alloc | apply Kd.R_drewN | apply Kd.R_drew)); exact Kd.R_mono (Kd.R_far (p := ⟨gb178, 3, none⟩) (Kd.R_far (p := ⟨gb178, 2, none⟩) (Kd.R_far (p := ⟨gb178, 1, none⟩) (Kd.R_far (p := ⟨gb178, 0, none⟩) (Kd.R_types HO_33.out BK178.out (by decide)) (fun _ hk => hk.2) (.int .u8 t173)) (fun _ hk => hk.2) (.int .u32 t174)) (fun _ hk => hk.2) (.string t175)) (fun _ hk => hk.2) (.int .u32 t176)) (fun _ hk => trivial)⟩, ⟨by (with_reducible repeat (first | refine blk_drewN ?_ _ | refine blk_drew ?_ | refine blk_alloc ?_ _)); refine blk_put (cs := #[.int .u8 t173, .int .u32 t174, .string t175, .int .u32 0]) ?_ 3 _ rfl; (with_reducible repeat (first | refine blk_drewN ?_ _ | refine blk_drew ?_ | refine blk_alloc ?_ _)); refine blk_put (cs := #[.int .u8 t173, .int .u32 t174, .string (⟨#[]⟩ : ByteArray), .int .u32 0]) ?_ 2 _ rfl; (with_reducible repeat (first | refine blk_drewN ?_ _ | refine blk_drew ?_ | refine blk_alloc ?_ _)); refine blk_put (cs := #[.int .u8 t173, .int .u32 0, .string (⟨#[]⟩ : ByteArray), .int .u32 0]) ?_ 1 _ rfl; (with_reducible repeat (first | refine blk_drewN ?_ _ | refine blk_drew ?_ | refine blk_alloc ?_ _)); refine blk_put (cs := #[.int .u8 0, .int .u32 0, .string (⟨#[]⟩ : ByteArray), .int .u32 0]) ?_ 0 _ rfl; (with_reducible repeat (first | refine blk_drewN ?_ _ | refine blk_drew ?_ | refine blk_alloc ?_ _)); exact BK178.out⟩, ⟨by repeat (first | (with_reducible first | exact HB.out | apply below_alloc | apply pw_below_drewN | apply below_drew1 | refine below_set ?_ GE178.out) | exact HB.out)⟩⟩
                    case rest =>
                      clear HC19
                      try clear c1
                      try clear p1
                      try clear q1
                      try clear hx1
                      try clear c2
                      try clear p2
                      try clear c3
                      try clear c4
                      try clear c5
                      try clear c6
                      try clear c7
                      try clear c8
                      try clear c9
                      try clear c9b0
                      try clear c9b1
                      try clear c10
                      try clear c14
                      try clear c14b0
                      try clear c15
                      try clear c15b0
                      try clear c16
                      try clear c16b0
                      try clear p17
                      try clear q17
                      try clear hx17
                      try clear c24
                      try clear c24b0
                      try clear c24b1
                      try clear c25
                      try clear c25b0
                      try clear c25b1
                      try clear c26
                      try clear c26b0
                      try clear c26b1
                      try clear c27
                      try clear c27b0
                      try clear c27b1
                      try clear c28
                      try clear c28b0
                      try clear c28b1
                      try clear c29
                      try clear c29b0
                      try clear c29b1
                      try clear hcz23_0
                      try clear hcz23_1
                      try clear hcz23_2
                      try clear hcz23_3
                      try clear hcz30_0
                      try clear hcz30_1
                      try clear hcz30_2
                      try clear hcz30_3
                      try clear hcz31_0
                      try clear hcz31_1
                      try clear hcz31_2
                      try clear hcz31_3
                      try clear hfz23_0
                      try clear hfz23_1
                      try clear hfz23_2
                      try clear hfz23_3
                      try clear hfz30_0
                      try clear hfz30_1
                      try clear hfz30_2
                      try clear hfz30_3
                      try clear hfz31_0
                      try clear hfz31_1
                      try clear hfz31_2
                      try clear hfz31_3
                      try clear hx170_0
                      try clear p170
                      try clear p2
                      try clear q170
                      obtain ⟨kq, x77_18, rfl, HA, HJ18, HO_5, HO_33, BK178, HB⟩ := hcut
                      cases kq with
                      | zero => exact absurd HA.out (by simp [cambiumtop_TopKeyed.j2])
                      | succ kj18 =>
                        have H := HA.out
                        clear HA
                        simp only [cambiumtop_TopKeyed.j2] at H
                        by_cases c32 : x77_18 = true
                        · subst c32
                          have H1 : (some false) = some r := by rw [if_pos rfl] at H; exact H
                          clear H
                          have H := H1
                          clear H1
                          exact absurd ((Option.some.inj H).trans HT_.out) (by simp)
                        · replace c32 := Bool.eq_false_iff.mpr c32
                          subst c32
                          have H1 : (if 0 ≤ x35_2 then (if x35_2 ≤ (t165.length : Int) then ((some (t165.take (x35_2 : Int).toNat : List ByteArray)).bind fun y179 => (cambiumtop_TopKeyed.l1 kj18 a1 t165 t169 (rdOf ByteArray.empty t165 x35_2) t171 t165 (t165.length : Int) x35_2 y179 (y179.length : Int) 0)) else (none)) else (none)) = some r := by rw [if_neg (show ¬ (false = true) by decide)] at H; exact H
                          clear H
                          have H := H1
                          clear H1
                          by_cases c33 : 0 ≤ x35_2
                          · rw [if_pos c33] at H
                            have c33b0 := eq_true c33
                            have c33b1 : decide (0 ≤ x35_2) = true := decide_eq_true c33
                            clear c33
                            by_cases c34 : x35_2 ≤ (t165.length : Int)
                            · rw [if_pos c34] at H
                              have c34b0 := eq_true c34
                              have c34b1 : decide (x35_2 ≤ (t165.length : Int)) = true := decide_eq_true c34
                              clear c34
                              obtain ⟨y179, hy179⟩ : ∃ y_ : List ByteArray, y_ = (t165.take (x35_2 : Int).toNat) := ⟨_, rfl⟩
                              replace H : (cambiumtop_TopKeyed.l1 kj18 a1 t165 t169 (rdOf ByteArray.empty t165 x35_2) t171 t165 (t165.length : Int) x35_2 y179 (y179.length : Int) 0) = some r := by first | (rw [hy179]; with_reducible exact H) | (have H2_ := (Option.bind_some _ _).symm.trans H; rw [hy179]; with_reducible exact H2_) | (have H2_ := (Option.bind_some _ _).symm.trans H; with_reducible exact H2_) | with_reducible exact H | (rw [hy179]; exact H) | exact H
                              have Ny179 := Aside0.mk hy179
                              clear hy179
                              have H' := Aside0.mk H
                              clear H
                              have q35 : (x35_2 : Int) ≤ ((t165.length : Int) : Int) := of_decide_eq_true (by first | (with_reducible assumption) | assumption)
                              obtain ⟨i035, hi035, _, hsz35, _⟩ := info_parts info9
                              have hroom35 : t165.length ≤ co13 := (Kd.R_reads' HO_5.out).2.1
                              have hC35 : Kd.C Kd.string _ (some ad170) t165.length t165 := (Kd.R_reads' HO_5.out).2.2
                              have hcut35 := cut_to (P := Try.prog) 24 9 .i64 Try.underlying24 hi035 (some ad170) t165.length co13 x35_2 (of_decide_eq_true (by first | (with_reducible assumption) | assumption)) q35 hroom35
                              have hr35 := Kd.C_take (m := (x35_2 : Int).toNat) hC35 (by omega)
                              have hy35 : y179.length = (x35_2 : Int).toNat := (by rw [Ny179.out, List.length_take]; omega)
                              rw [← Ny179.out] at hr35
                              rw [← hy35] at hcut35
                              have HR182 := Aside0.mk hr35
                              have HC182 := Aside0.mk (show y179.length ≤ co13 from by omega)
                              clear hr35 hC35 hroom35 hi035 hsz35
                              have KY35 := Aside0.mk hy35
                              clear hy35
                              have KL35 := Aside0.mk (show (x35_2 : Int).toNat ≤ t165.length from by omega)
                              replace q35 := eq_true q35
                              go_wp2
                              go_loopg [82] kj18 (fun kq v82 w' => ∃ (x82_4 : Int), v82 = .int .i64 x82_4 ∧ Aside0 (cambiumtop_TopKeyed.l1 kq a1 t165 t169 (rdOf ByteArray.empty t165 x35_2) t171 t165 (t165.length : Int) x35_2 y179 (y179.length : Int) x82_4 = some r) ∧ Aside0 (kq ≤ kj18) ∧ Aside0 (Kd.R Kd.string 9 w' w.heap.size (fun _ => True) (.slice (some ad170) t165.length co13) t165) ∧ Aside0 (Kd.R Kd.string 9 w' w.heap.size (fun _ => True) (.slice (some ad170) t165.length co13) t165) ∧ Aside0 (w'.heap[gb178]? = some (.cells #[.int .u8 t173, .int .u32 t174, .string t175, .int .u32 t176] 33 (0, 0))) ∧ Aside0 (Kd.C Kd.string w' (some ad170) y179.length y179) ∧ Aside0 (Below w.heap.size w w'))
                              case atStart => exact ⟨(0), (by first | rfl | (simp; done) | (simp [*]; done)), H', ⟨Nat.le_refl _⟩, ⟨by (with_reducible repeat (first | apply Kd.R_alloc | apply Kd.R_drewN | apply Kd.R_drew)); exact HO_5.out⟩, ⟨by (with_reducible repeat (first | apply Kd.R_alloc | apply Kd.R_drewN | apply Kd.R_drew)); exact HO_33.out⟩, ⟨by (with_reducible repeat (first | refine blk_drewN ?_ _ | refine blk_drew ?_ | refine blk_alloc ?_ _)); exact BK178.out⟩, ⟨by repeat (first | (with_reducible exact HR182.out) | (with_reducible refine Kd.C_alloc ?_ _) | (with_reducible refine Kd.C_drewN ?_ _) | (with_reducible refine Kd.C_drew ?_) | exact HR182.out)⟩, ⟨by repeat (first | (with_reducible first | exact HB.out | apply below_alloc | apply pw_below_drewN | apply below_drew1 | refine below_set ?_ GE178.out) | exact HB.out)⟩⟩
                              case round =>
                                clear H'
                                try clear c1
                                try clear p1
                                try clear q1
                                try clear hx1
                                try clear c2
                                try clear p2
                                try clear c3
                                try clear q3
                                try clear c4
                                try clear c5
                                try clear c6
                                try clear c7
                                try clear c8
                                try clear c9
                                try clear c9b0
                                try clear c9b1
                                try clear c10
                                try clear c14
                                try clear c14b0
                                try clear c15
                                try clear c15b0
                                try clear c16
                                try clear c16b0
                                try clear p17
                                try clear q17
                                try clear hx17
                                try clear c24
                                try clear c24b0
                                try clear c24b1
                                try clear c25
                                try clear c25b0
                                try clear c25b1
                                try clear c26
                                try clear c26b0
                                try clear c26b1
                                try clear c27
                                try clear c27b0
                                try clear c27b1
                                try clear c28
                                try clear c28b0
                                try clear c28b1
                                try clear c29
                                try clear c29b0
                                try clear c29b1
                                try clear c32
                                try clear c33
                                try clear c33b0
                                try clear c33b1
                                try clear c34
                                try clear c34b0
                                try clear c34b1
                                try clear q35
                                try clear hcz23_0
                                try clear hcz23_1
                                try clear hcz23_2
                                try clear hcz23_3
                                try clear hcz30_0
                                try clear hcz30_1
                                try clear hcz30_2
                                try clear hcz30_3
                                try clear hcz31_0
                                try clear hcz31_1
                                try clear hcz31_2
                                try clear hcz31_3
                                try clear hfz23_0
                                try clear hfz23_1
                                try clear hfz23_2
                                try clear hfz23_3
                                try clear hfz30_0
                                try clear hfz30_1
                                try clear hfz30_2
                                try clear hfz30_3
                                try clear hfz31_0
                                try clear hfz31_1
                                try clear hfz31_2
                                try clear hfz31_3
                                try clear hx170_0
                                try clear p1
                                try clear p17
                                try clear p170
                                try clear p2
                                try clear q1
                                try clear q17
                                try clear q170
                                try clear q35
                                obtain ⟨x82_4, rfl, HA, HK4, HO_5, HO_33, BK178, HR182, HB⟩ := hrel
                                cases gk with
                                | zero => exact absurd HA.out (by simp [cambiumtop_TopKeyed.l1])
                                | succ k4 =>
                                  have H := HA.out
                                  clear HA
                                  simp only [cambiumtop_TopKeyed.l1] at H
                                  by_cases c36 : x82_4 < (y179.length : Int)
                                  · rw [if_pos c36] at H
                                    have c36b0 : decide (x82_4 < (y179.length : Int)) = true := decide_eq_true c36
                                    clear c36
                                    by_cases c37 : 0 ≤ x82_4
                                    · rw [if_pos c37] at H
                                      have c37b0 : decide (0 ≤ x82_4) = true := decide_eq_true c37
                                      clear c37
                                      by_cases c38 : x82_4 < (y179.length : Int)
                                      · rw [if_pos c38] at H
                                        have c38b0 : decide (x82_4 < (y179.length : Int)) = true := decide_eq_true c38
                                        clear c38
                                        replace H := Option.bind_eq_some_iff.mp H
                                        obtain ⟨⟨t184, t185⟩, A390, H⟩ := H
                                        replace H : (if ((Op.bytesLess t171.toList t184.toList) != (Op.bytesLess (rdOf ByteArray.empty t165 x35_2).toList ((rdOf ByteArray.empty y179 x82_4).toList))) = true then (some false) else (if ((t171.toList == t184.toList) != ((rdOf ByteArray.empty t165 x35_2).toList == (rdOf ByteArray.empty y179 x82_4).toList)) = true then (some false) else (cambiumtop_TopKeyed.l1 k4 a1 t165 t169 (rdOf ByteArray.empty t165 x35_2) t171 t165 (t165.length : Int) x35_2 y179 (y179.length : Int) (wrap64 (x82_4 + 1))))) = some r := H
                                        have A39 := Aside0.mk A390
                                        clear A390
                                        by_cases c40 : ((Op.bytesLess t171.toList t184.toList) != (Op.bytesLess (rdOf ByteArray.empty t165 x35_2).toList ((rdOf ByteArray.empty y179 x82_4).toList))) = true
                                        · rw [if_pos c40] at H
                                          have c40b0 : ((Op.bytesLess t171.toList t184.toList) != (Op.bytesLess (rdOf ByteArray.empty t165 x35_2).toList ((rdOf ByteArray.empty y179 x82_4).toList))) = true := c40
                                          (try (have c40b1 : decide ((Op.bytesLess t171.toList t184.toList) = (Op.bytesLess (rdOf ByteArray.empty t165 x35_2).toList ((rdOf ByteArray.empty y179 x82_4).toList))) = false := by simpa using c40))
                                          (try (have c40b2 : ((Op.bytesLess t171.toList t184.toList) == (Op.bytesLess (rdOf ByteArray.empty t165 x35_2).toList ((rdOf ByteArray.empty y179 x82_4).toList))) = false := by simpa using c40))
                                          (try (have c40b3 : ¬ ((Op.bytesLess t171.toList t184.toList) = (Op.bytesLess (rdOf ByteArray.empty t165 x35_2).toList ((rdOf ByteArray.empty y179 x82_4).toList))) := by simpa using c40))
                                          clear c40
                                          exact absurd ((Option.some.inj H).trans HT_.out) (by simp)
                                        · rw [if_neg c40] at H
                                          have c40b0 : ((Op.bytesLess t171.toList t184.toList) != (Op.bytesLess (rdOf ByteArray.empty t165 x35_2).toList ((rdOf ByteArray.empty y179 x82_4).toList))) = false := by simpa using c40
                                          (try (have c40b1 : decide ((Op.bytesLess t171.toList t184.toList) = (Op.bytesLess (rdOf ByteArray.empty t165 x35_2).toList ((rdOf ByteArray.empty y179 x82_4).toList))) = true := by simpa using c40))
                                          (try (have c40b2 : ((Op.bytesLess t171.toList t184.toList) == (Op.bytesLess (rdOf ByteArray.empty t165 x35_2).toList ((rdOf ByteArray.empty y179 x82_4).toList))) = true := by simpa using c40))
                                          clear c40
                                          by_cases c41 : ((t171.toList == t184.toList) != ((rdOf ByteArray.empty t165 x35_2).toList == (rdOf ByteArray.empty y179 x82_4).toList)) = true
                                          · rw [if_pos c41] at H
                                            have c41b0 : ((t171.toList == t184.toList) != ((rdOf ByteArray.empty t165 x35_2).toList == (rdOf ByteArray.empty y179 x82_4).toList)) = true := c41
                                            (try (have c41b1 : decide ((t171.toList == t184.toList) = ((rdOf ByteArray.empty t165 x35_2).toList == (rdOf ByteArray.empty y179 x82_4).toList)) = false := by simpa using c41))
                                            (try (have c41b2 : ((t171.toList == t184.toList) == ((rdOf ByteArray.empty t165 x35_2).toList == (rdOf ByteArray.empty y179 x82_4).toList)) = false := by simpa using c41))
                                            (try (have c41b3 : ¬ ((t171.toList == t184.toList) = ((rdOf ByteArray.empty t165 x35_2).toList == (rdOf ByteArray.empty y179 x82_4).toList)) := by simpa using c41))
                                            clear c41
                                            exact absurd ((Option.some.inj H).trans HT_.out) (by simp)
                                          · rw [if_neg c41] at H
                                            have c41b0 : ((t171.toList == t184.toList) != ((rdOf ByteArray.empty t165 x35_2).toList == (rdOf ByteArray.empty y179 x82_4).toList)) = false := by simpa using c41
                                            (try (have c41b1 : decide ((t171.toList == t184.toList) = ((rdOf ByteArray.empty t165 x35_2).toList == (rdOf ByteArray.empty y179 x82_4).toList)) = true := by simpa using c41))
                                            (try (have c41b2 : ((t171.toList == t184.toList) == ((rdOf ByteArray.empty t165 x35_2).toList == (rdOf ByteArray.empty y179 x82_4).toList)) = true := by simpa using c41))
                                            clear c41
                                            have H' := Aside0.mk H
                                            clear H
                                            have p183 : 0 ≤ (x82_4 : Int) := of_decide_eq_true (by first | (with_reducible assumption) | assumption)
                                            have q183 : x82_4 < (y179.length : Int) := of_decide_eq_true (by first | (with_reducible assumption) | assumption)
                                            obtain ⟨ad183, e183, hx183_0⟩ := Kd.at_string HR182.out x82_4 p183 q183
                                            obtain rfl : ad170 = ad183 := (by injection e183)
                                            replace p183 := eq_true p183
                                            replace q183 := eq_true q183
                                            go_wp2_with (first | ((with_reducible refine gate_callee (f := 7) rfl ?_); refine goesL_ (some 90) rfl rfl Try.func7 (by kernel_rfl) rfl #[.agg #[.int .u8 2, .int .u32 a1, .string (rdOf ByteArray.empty y179 x82_4), .int .u32 0]] rfl (by (try simp only [List.map_toArray, List.map_cons, List.map_nil]); first | done | rfl | (simp only [List.length_drop, List.length_take]; rfl)) ?_; (with_reducible refine (inode_Key.calls k4 2 a1 (rdOf ByteArray.empty y179 x82_4) 0 t184 t185 _ A39.out).mono ?_); rintro e w42 ⟨rfl, hb⟩; refine ⟨_, rfl, ?_⟩; have n0_ := Aside0.mk (Kd.R_below (by (with_reducible repeat (first | apply Kd.R_alloc | apply Kd.R_drewN | apply Kd.R_drew)); exact HO_5.out) hb); have n1_ := Aside0.mk (Kd.R_below (by (with_reducible repeat (first | apply Kd.R_alloc | apply Kd.R_drewN | apply Kd.R_drew)); exact HO_33.out) hb); have n2_ := Aside0.mk (blk_below (g := gb178) (o := .cells #[.int .u8 t173, .int .u32 t174, .string t175, .int .u32 t176] 33 (0, 0)) (by (with_reducible repeat (first | refine blk_drewN ?_ _ | refine blk_drew ?_ | refine blk_alloc ?_ _)); exact BK178.out) hb); have n3_ := Aside0.mk (Kd.C_below (by repeat (first | (with_reducible exact HR182.out) | (with_reducible refine Kd.C_alloc ?_ _) | (with_reducible refine Kd.C_drewN ?_ _) | (with_reducible refine Kd.C_drew ?_) | exact HR182.out)) hb); have n4_ := Aside0.mk (below_step (by repeat (first | (with_reducible first | exact HB.out | apply below_alloc | apply pw_below_drewN | apply below_drew1 | refine below_set ?_ GE178.out) | exact HB.out)) hb); clear HO_5; clear HO_33; clear BK178; clear HR182; clear HB; have HO_5 := n0_; have HO_33 := n1_; have BK178 := n2_; have HR182 := n3_; have HB := n4_; clear n0_ n1_ n2_ n3_ n4_; (try clear hb); (try clear hb2); (try clear hk); (try clear hi)))
                                            go_roundg k4
                                            case measure => have := HJ5.out; have := HK2.out; have := HJ18.out; have := HK4.out; omega
                                            case rel => exact ⟨(wrap64 (x82_4 + 1)), (by first | rfl | (simp; done) | (simp [*]; done)), H', ⟨by have := HJ5.out; have := HK2.out; have := HJ18.out; have := HK4.out; omega⟩, ⟨by (with_reducible repeat (first | apply Kd.R_alloc | apply Kd.R_drewN | apply Kd.R_drew)); exact HO_5.out⟩, ⟨by (with_reducible repeat (first | apply Kd.R_alloc | apply Kd.R_drewN | apply Kd.R_drew)); exact HO_33.out⟩, ⟨by (with_reducible repeat (first | refine blk_drewN ?_ _ | refine blk_drew ?_ | refine blk_alloc ?_ _)); exact BK178.out⟩, ⟨by repeat (first | (with_reducible exact HR182.out) | (with_reducible refine Kd.C_alloc ?_ _) | (with_reducible refine Kd.C_drewN ?_ _) | (with_reducible refine Kd.C_drew ?_) | exact HR182.out)⟩, ⟨by repeat (first | (with_reducible first | exact HB.out | apply below_alloc | apply pw_below_drewN | apply below_drew1 | refine below_set ?_ GE178.out) | exact HB.out)⟩⟩
                                      · rw [if_neg c38] at H
                                        exact absurd H (by simp)
                                    · rw [if_neg c37] at H
                                      exact absurd H (by simp)
                                  · rw [if_neg c36] at H
                                    have c36b0 : decide (x82_4 < (y179.length : Int)) = false := decide_eq_false c36
                                    clear c36
                                    have H' := Aside0.mk H
                                    clear H
                                    go_wp2
                                    go_roundg k4
                                    case measure => have := HJ5.out; have := HK2.out; have := HJ18.out; have := HK4.out; omega
                                    case rel => exact ⟨(wrap64 (x35_2 + 1)), (by first | rfl | (simp; done) | (simp [*]; done)), H', ⟨by have := HJ5.out; have := HK2.out; have := HJ18.out; have := HK4.out; omega⟩, ⟨by (with_reducible repeat (first | apply Kd.R_alloc | apply Kd.R_drewN | apply Kd.R_drew)); exact HO_5.out⟩, ⟨by (with_reducible repeat (first | apply Kd.R_alloc | apply Kd.R_drewN | apply Kd.R_drew)); exact HO_33.out⟩, ⟨by repeat (first | (with_reducible first | exact HB.out | apply below_alloc | apply pw_below_drewN | apply below_drew1 | refine below_set ?_ GE178.out) | exact HB.out)⟩⟩
                            · rw [if_neg c34] at H
                              exact absurd H (by simp)
                          · rw [if_neg c33] at H
                            exact absurd H (by simp)
                  · rw [if_neg c16] at H
                    exact absurd H (by simp)
                · rw [if_neg c15] at H
                  exact absurd H (by simp)
              · rw [if_neg c14] at H
                have c14b0 : decide (x35_2 < (t165.length : Int)) = false := decide_eq_false c14
                clear c14
                obtain rfl := Option.some.inj H
                go_wp2
                go_ret
                exact ⟨by first | rfl | (simp [errW_none, errW_some] <;> rfl) | (simp [*, errW_none, errW_some] <;> rfl), by repeat (first | (with_reducible first | exact HB.out | apply below_alloc | apply pw_below_drewN | apply below_drew1) | exact HB.out)⟩
  · replace c4 := Bool.eq_false_iff.mpr c4
    subst c4
    have H1 : (some false) = some r := by rw [if_neg (show ¬ (false = true) by decide)] at H; exact H
    clear H
    have H := H1
    clear H1
    exact absurd ((Option.some.inj H).trans HT_.out) (by simp)

end Go.Proofs.Ythbljhmjppjcjaa.Z
end

section
/- Bytes as a text; names. -/
namespace Go.Proofs.Ythbljhmjppjcjaa.PM
/-- Bytes as a text. -/
def ba (l : List UInt8) : ByteArray := ⟨l.toArray⟩
theorem ba_data (l : List UInt8) : (ba l).data.toList = l := by simp [ba]
theorem ba_toList (l : List UInt8) : (ba l).toList = l := by rw [ByteArray.toList_eq]; exact ba_data l
theorem ba_size (l : List UInt8) : (ba l).size = l.length := by simp [ba, ByteArray.size]
theorem data_ba (s : ByteArray) : ba s.data.toList = s := by cases s; simp [ba]
theorem ba_inj {a b : List UInt8} (h : ba a = ba b) : a = b := by have := congrArg (fun s => s.data.toList) h; simpa [ba_data] using this
theorem ba_app (a b : List UInt8) : ba a ++ ba b = ba (a ++ b) := by
  have h : (ba a ++ ba b).data.toList = (ba (a ++ b)).data.toList := by rw [Go.Joins.data_append, ba_data, ba_data, ba_data]
  rw [← data_ba (ba a ++ ba b), h, data_ba]
theorem map_ba_inj {a b : List (List UInt8)} (h : a.map ba = b.map ba) : a = b := by
  have h2 := congrArg (List.map (fun s : ByteArray => s.data.toList)) h
  simpa [List.map_map, Function.comp_def, ba_data] using h2
theorem map_data (l : List ByteArray) : (l.map (fun s => s.data.toList)).map ba = l := by
  rw [List.map_map]; simp [Function.comp_def, data_ba]

/-- A name. -/
def nameL (l : List UInt8) : Bool := decide (l ≠ [] ∧ l.length ≤ 24 ∧ 47 ∉ l ∧ 0 ∉ l ∧ l ≠ [46] ∧ l ≠ [46, 46])
theorem nameL_iff {l : List UInt8} : nameL l = true ↔ (l ≠ [] ∧ l.length ≤ 24 ∧ 47 ∉ l ∧ 0 ∉ l ∧ l ≠ [46] ∧ l ≠ [46, 46]) := by simp [nameL]

end Go.Proofs.Ythbljhmjppjcjaa.PM
end

section
/- Numbers as bytes; inodes and keys as bytes: over lists (no program in sight). -/
namespace Go.Proofs.Ythbljhmjppjcjaa.PM
open Go
/-- The w bytes of a number, the greatest first. -/
def be : Nat → Nat → List UInt8
  | 0, _ => []
  | w + 1, n => be w (n / 256) ++ [UInt8.ofNat (n % 256)]
theorem be_len : ∀ w n, (be w n).length = w
  | 0, _ => rfl
  | w + 1, n => by rw [be, List.length_append, be_len w]; rfl
theorem be_cons : ∀ w n, be (w + 1) n = UInt8.ofNat (n / 256 ^ w % 256) :: be w n
  | 0, n => by simp [be]
  | w + 1, n => by
    have h := be_cons w (n / 256)
    rw [be, h, be, List.cons_append, Nat.div_div_eq_div_mul, ← Nat.pow_succ']
def num (l : List UInt8) : Nat := l.foldl (fun a b => a * 256 + b.toNat) 0
theorem num_snoc (l : List UInt8) (b : UInt8) : num (l ++ [b]) = num l * 256 + b.toNat := by simp [num]
theorem num_nil : num [] = 0 := rfl
theorem ofNat_toNat (n : Nat) : (UInt8.ofNat (n % 256)).toNat = n % 256 := by simp
theorem num_be : ∀ w n, n < 256 ^ w → num (be w n) = n
  | 0, n, h => by
    have : n = 0 := by simpa using h
    subst this
    rfl
  | w + 1, n, h => by
    rw [be, num_snoc, num_be w (n / 256) (by rw [Nat.pow_succ] at h; omega), ofNat_toNat]
    omega
theorem num_lt : ∀ (k : Nat) (l : List UInt8), l.length = k → num l < 256 ^ k
  | 0, l, h => by rw [List.length_eq_zero_iff.1 h]; exact Nat.one_pos
  | k + 1, l, h => by
    obtain rfl | ⟨l', b, rfl⟩ := List.eq_nil_or_concat l
    · cases h
    · rw [List.concat_eq_append] at h ⊢
      rw [num_snoc, Nat.pow_succ]
      have h1 := num_lt k l' (by simpa using h)
      have h2 := b.toNat_lt
      omega
theorem be_num : ∀ (k : Nat) (l : List UInt8), l.length = k → be k (num l) = l
  | 0, l, h => by rw [List.length_eq_zero_iff.1 h]; rfl
  | k + 1, l, h => by
    obtain rfl | ⟨l', b, rfl⟩ := List.eq_nil_or_concat l
    · cases h
    · rw [List.concat_eq_append] at h ⊢
      have h2 := b.toNat_lt
      rw [num_snoc, be, show (num l' * 256 + b.toNat) / 256 = num l' by omega, show (num l' * 256 + b.toNat) % 256 = b.toNat by omega, be_num k l' (by simpa using h)]
      simp
theorem be_inj {w n m : Nat} (hn : n < 256 ^ w) (hm : m < 256 ^ w) (h : be w n = be w m) : n = m := by
  rw [← num_be w n hn, ← num_be w m hm, h]
theorem bl_snoc : ∀ (a b : List UInt8) (x y : UInt8), a.length = b.length → Op.bytesLess (a ++ [x]) (b ++ [y]) = (Op.bytesLess a b || (a == b && decide (x < y)))
  | [], [], x, y, _ => by simp [Op.bytesLess]
  | c :: a, d :: b, x, y, h => by
    have e : (c :: a == d :: b) = (c == d && a == b) := List.cons_beq_cons
    rw [List.cons_append, List.cons_append, Op.bytesLess, Op.bytesLess, bl_snoc a b x y (by simpa using h), e]
    cases decide (c < d) <;> cases c == d <;> cases Op.bytesLess a b <;> cases a == b <;> cases decide (x < y) <;> rfl
theorem bl_pre : ∀ (a x y : List UInt8), Op.bytesLess (a ++ x) (a ++ y) = Op.bytesLess x y
  | [], _, _ => rfl
  | c :: a, x, y => by
    rw [List.cons_append, List.cons_append, Op.bytesLess, bl_pre a x y]
    simp [UInt8.lt_irrefl]
/-- Bytes stand as their numbers do. -/
theorem be_less : ∀ (w n m : Nat), n < 256 ^ w → m < 256 ^ w → Op.bytesLess (be w n) (be w m) = decide (n < m)
  | 0, n, m, hn, hm => by
    have : n = 0 := by simpa using hn
    have : m = 0 := by simpa using hm
    subst_vars
    rfl
  | w + 1, n, m, hn, hm => by
    rw [Nat.pow_succ] at hn hm
    rw [be, be, bl_snoc _ _ _ _ (by rw [be_len, be_len]), be_less w _ _ (by omega) (by omega)]
    have e : decide (UInt8.ofNat (n % 256) < UInt8.ofNat (m % 256)) = decide (n % 256 < m % 256) := by
      rw [Bool.eq_iff_iff]
      simp only [decide_eq_true_eq, UInt8.lt_iff_toNat_lt, ofNat_toNat]
    rw [e]
    by_cases h : n / 256 = m / 256
    · rw [h]
      simp
      omega
    · have h2 : (be w (n / 256) == be w (m / 256)) = false := by
        simp only [beq_eq_false_iff_ne, ne_eq]
        exact fun he => h (be_inj (by omega) (by omega) he)
      rw [h2]
      simp
      omega
theorem tk {n : Nat} {a r : List UInt8} (h : a.length = n) : (a ++ r).take n = a := by subst h; simp
theorem dr {n : Nat} {a r : List UInt8} (h : a.length = n) : (a ++ r).drop n = r := by subst h; simp

/-! ### Inodes -/
def okN (k l s : Int) (t : List UInt8) : Bool :=
  decide (k = 1 ∧ l = 1 ∧ s = 0 ∧ t = [] ∨ k = 2 ∧ 0 < l ∧ s ≤ 65536 ∧ t = [] ∨ k = 3 ∧ 0 < l ∧ t ≠ [] ∧ t.length ≤ 64 ∧ 0 ∉ t ∧ s = t.length)
def enc (k m l s : Int) (t : List UInt8) : List UInt8 := be 1 k.toNat ++ (be 2 m.toNat ++ (be 4 l.toNat ++ (be 4 s.toNat ++ (be 2 t.length ++ t))))
def encS (k m l s : Int) (t : List UInt8) : List UInt8 × Int := if okN k l s t = true then (enc k m l s t, 0) else ([], 4)
abbrev Ino := Int × Int × Int × Int × List UInt8 × Int
def d3 (l : List UInt8) : List UInt8 := (l.drop 1).drop 2
def d7 (l : List UInt8) : List UInt8 := (d3 l).drop 4
def d11 (l : List UInt8) : List UInt8 := (d7 l).drop 4
def d13 (l : List UInt8) : List UInt8 := (d11 l).drop 2
def f1 (l : List UInt8) : Int := num (l.take 1)
def f2 (l : List UInt8) : Int := num ((l.drop 1).take 2)
def f3 (l : List UInt8) : Int := num ((d3 l).take 4)
def f4 (l : List UInt8) : Int := num ((d7 l).take 4)
def whole (l : List UInt8) : Prop := 13 ≤ l.length ∧ l.length = 13 + num ((d11 l).take 2)
instance (l : List UInt8) : Decidable (whole l) := by unfold whole; infer_instance
def decS (l : List UInt8) : Ino := if whole l ∧ okN (f1 l) (f3 l) (f4 l) (d13 l) = true then (f1 l, f2 l, f3 l, f4 l, d13 l, 0) else (0, 0, 0, 0, [], 4)
theorem p1 : 256 ^ 1 = 256 := rfl
theorem p2 : 256 ^ 2 = 65536 := rfl
theorem p4 : 256 ^ 4 = 4294967296 := rfl
theorem dec_enc {k m l s : Int} {t : List UInt8} (h : okN k l s t = true) (hk : 0 ≤ k ∧ k < 256) (hm : 0 ≤ m ∧ m < 65536) (hl : 0 ≤ l ∧ l < 4294967296) (hs : 0 ≤ s ∧ s < 4294967296) :
    decS (enc k m l s t) = (k, m, l, s, t, 0) := by
  have ht : t.length ≤ 64 := by
    unfold okN at h
    rcases of_decide_eq_true h with h | h | h
    · rw [h.2.2.2]; decide
    · rw [h.2.2.2]; decide
    · exact h.2.2.2.1
  have a1 : (enc k m l s t).drop 1 = be 2 m.toNat ++ (be 4 l.toNat ++ (be 4 s.toNat ++ (be 2 t.length ++ t))) := dr (be_len _ _)
  have a3 : d3 (enc k m l s t) = be 4 l.toNat ++ (be 4 s.toNat ++ (be 2 t.length ++ t)) := by unfold d3; rw [a1]; exact dr (be_len _ _)
  have a7 : d7 (enc k m l s t) = be 4 s.toNat ++ (be 2 t.length ++ t) := by unfold d7; rw [a3]; exact dr (be_len _ _)
  have a11 : d11 (enc k m l s t) = be 2 t.length ++ t := by unfold d11; rw [a7]; exact dr (be_len _ _)
  have a13 : d13 (enc k m l s t) = t := by unfold d13; rw [a11]; exact dr (be_len _ _)
  have e1 : f1 (enc k m l s t) = k := by
    unfold f1 enc; rw [tk (be_len _ _), num_be 1 _ (by rw [p1]; omega)]; omega
  have e2 : f2 (enc k m l s t) = m := by
    unfold f2; rw [a1, tk (be_len _ _), num_be 2 _ (by rw [p2]; omega)]; omega
  have e3 : f3 (enc k m l s t) = l := by
    unfold f3; rw [a3, tk (be_len _ _), num_be 4 _ (by rw [p4]; omega)]; omega
  have e4 : f4 (enc k m l s t) = s := by
    unfold f4; rw [a7, tk (be_len _ _), num_be 4 _ (by rw [p4]; omega)]; omega
  have e5 : whole (enc k m l s t) := by
    have hlen : (enc k m l s t).length = 13 + t.length := by unfold enc; simp only [List.length_append, be_len]; omega
    refine ⟨by omega, ?_⟩
    rw [a11, tk (be_len _ _), num_be 2 _ (by rw [p2]; omega), hlen]
  unfold decS
  rw [e1, e2, e3, e4, a13, if_pos ⟨e5, h⟩]
theorem enc_dec {l : List UInt8} (h : whole l) : enc (f1 l) (f2 l) (f3 l) (f4 l) (d13 l) = l := by
  obtain ⟨h1, h2⟩ := h
  have l1 : (l.drop 1).length = l.length - 1 := by simp
  have l3 : (d3 l).length = l.length - 3 := by unfold d3; simp only [List.length_drop]; omega
  have l7 : (d7 l).length = l.length - 7 := by unfold d7; rw [List.length_drop, l3]; omega
  have l11 : (d11 l).length = l.length - 11 := by unfold d11; rw [List.length_drop, l7]; omega
  have l13 : (d13 l).length = l.length - 13 := by unfold d13; rw [List.length_drop, l11]; omega
  have lt : (d13 l).length = num ((d11 l).take 2) := by omega
  unfold enc f1 f2 f3 f4
  rw [lt]
  simp only [Int.toNat_natCast]
  rw [be_num 1 _ (by rw [List.length_take]; omega), be_num 2 _ (by rw [List.length_take]; omega), be_num 4 _ (by rw [List.length_take]; omega), be_num 4 _ (by rw [List.length_take]; omega), be_num 2 _ (by rw [List.length_take]; omega)]
  unfold d13
  rw [List.take_append_drop]
  conv => lhs; rw [show d11 l = (d7 l).drop 4 from rfl, List.take_append_drop]
  conv => lhs; rw [show d7 l = (d3 l).drop 4 from rfl, List.take_append_drop]
  conv => lhs; rw [show d3 l = (l.drop 1).drop 2 from rfl, List.take_append_drop]
  rw [List.take_append_drop]
theorem f_range (l : List UInt8) (h : whole l) : (0 ≤ f1 l ∧ f1 l < 256) ∧ (0 ≤ f2 l ∧ f2 l < 65536) ∧ (0 ≤ f3 l ∧ f3 l < 4294967296) ∧ (0 ≤ f4 l ∧ f4 l < 4294967296) := by
  obtain ⟨h1, h2⟩ := h
  have l3 : (d3 l).length = l.length - 3 := by unfold d3; simp only [List.length_drop]; omega
  have l7 : (d7 l).length = l.length - 7 := by unfold d7; rw [List.length_drop, l3]; omega
  have a1 := num_lt 1 (l.take 1) (by rw [List.length_take]; omega)
  have a2 := num_lt 2 ((l.drop 1).take 2) (by rw [List.length_take, List.length_drop]; omega)
  have a3 := num_lt 4 ((d3 l).take 4) (by rw [List.length_take]; omega)
  have a4 := num_lt 4 ((d7 l).take 4) (by rw [List.length_take]; omega)
  rw [p1] at a1
  rw [p2] at a2
  rw [p4] at a3 a4
  unfold f1 f2 f3 f4
  omega

/-! ### Keys -/
def lett (k : Int) : List UInt8 := if k = 1 then [105] else if k = 2 then [100] else if k = 3 then [99] else if k = 4 then [120] else []
def prefL (k i : Int) : List UInt8 := if lett k = [] then [] else lett k ++ be 4 i.toNat
def rightK (k i : Int) (nm : List UInt8) (c : Int) : Bool :=
  decide (0 < i ∧ (k = 1 ∧ nm = [] ∧ c = 0 ∨ (k = 2 ∨ k = 4) ∧ nameL nm = true ∧ c = 0 ∨ k = 3 ∧ nm = [] ∧ c < 512))
def keyL (k i : Int) (nm : List UInt8) (c : Int) : List UInt8 := prefL k i ++ (if k = 3 then be 4 c.toNat else nm)
def keyS (k i : Int) (nm : List UInt8) (c : Int) : List UInt8 × Int := if rightK k i nm c = true then (keyL k i nm c, 0) else ([], 4)
def kindOf (b : UInt8) : Int := if b = 105 then 1 else if b = 100 then 2 else if b = 99 then 3 else if b = 120 then 4 else 0
abbrev KeyT := Int × Int × List UInt8 × Int × Int
def g1 (l : List UInt8) : Int := kindOf (l.headD 0)
def g2 (l : List UInt8) : Int := num ((l.drop 1).take 4)
def r5 (l : List UInt8) : List UInt8 := (l.drop 1).drop 4
def parsS (l : List UInt8) : KeyT :=
  if l.length < 5 then (0, 0, [], 0, 4)
  else if g1 l = 3 then if (r5 l).length = 4 ∧ rightK 3 (g2 l) [] (num (r5 l)) = true then (3, g2 l, [], num (r5 l), 0) else (0, 0, [], 0, 4)
  else if rightK (g1 l) (g2 l) (r5 l) 0 = true then (g1 l, g2 l, r5 l, 0, 0) else (0, 0, [], 0, 4)
theorem lett_one {k : Int} (h : lett k ≠ []) : ∃ b, lett k = [b] ∧ kindOf b = k := by
  unfold lett at *
  by_cases h1 : k = 1
  · subst h1; exact ⟨105, rfl, rfl⟩
  · by_cases h2 : k = 2
    · subst h2; exact ⟨100, rfl, rfl⟩
    · by_cases h3 : k = 3
      · subst h3; exact ⟨99, rfl, rfl⟩
      · by_cases h4 : k = 4
        · subst h4; exact ⟨120, rfl, rfl⟩
        · rw [if_neg h1, if_neg h2, if_neg h3, if_neg h4] at h
          exact absurd rfl h
theorem lett_ne {k i : Int} {nm : List UInt8} {c : Int} (h : rightK k i nm c = true) : lett k ≠ [] := by
  unfold rightK at h
  have h := (of_decide_eq_true h).2
  unfold lett
  rcases h with h | h | h
  · rw [if_pos h.1]; simp
  · rcases h.1 with h | h <;> subst h <;> decide
  · rw [h.1]; decide
theorem prefL_len {k i : Int} (h : lett k ≠ []) : (prefL k i).length = 5 := by
  obtain ⟨b, hb, _⟩ := lett_one h
  unfold prefL
  rw [if_neg h, hb, List.length_append, be_len]
  rfl
theorem key_parts {k i : Int} {nm : List UInt8} {c : Int} (h : lett k ≠ []) (hi : 0 ≤ i ∧ i < 4294967296) :
    g1 (keyL k i nm c) = k ∧ g2 (keyL k i nm c) = i ∧ r5 (keyL k i nm c) = (if k = 3 then be 4 c.toNat else nm) ∧ ¬ (keyL k i nm c).length < 5 := by
  obtain ⟨b, hb, hk⟩ := lett_one h
  have e : keyL k i nm c = b :: (be 4 i.toNat ++ (if k = 3 then be 4 c.toNat else nm)) := by
    unfold keyL prefL
    rw [if_neg h, hb]
    rfl
  rw [e]
  refine ⟨hk, ?_, ?_, ?_⟩
  · unfold g2
    rw [List.drop_one, List.tail_cons, tk (be_len _ _), num_be 4 _ (by rw [p4]; omega)]
    omega
  · unfold r5
    rw [List.drop_one, List.tail_cons, dr (be_len _ _)]
  · rw [List.length_cons, List.length_append, be_len]; omega
theorem pars_key {k i : Int} {nm : List UInt8} {c : Int} (h : rightK k i nm c = true) (hi : 0 ≤ i ∧ i < 4294967296) (hc : 0 ≤ c) : parsS (keyL k i nm c) = (k, i, nm, c, 0) := by
  have hl := lett_ne h
  obtain ⟨a1, a2, a3, a4⟩ := key_parts (nm := nm) (c := c) hl hi
  unfold parsS
  rw [if_neg a4, a1, a2, a3]
  have h0 := h
  unfold rightK at h0
  have h1 := (of_decide_eq_true h0).2
  by_cases h3 : k = 3
  · subst h3
    have hn : nm = [] ∧ c < 512 := by
      rcases h1 with h1 | h1 | h1
      · exact absurd h1.1 (by decide)
      · rcases h1.1 with h1 | h1 <;> exact absurd h1 (by decide)
      · exact h1.2
    obtain ⟨rfl, hc2⟩ := hn
    have e : ((num (be 4 c.toNat) : Nat) : Int) = c := by rw [num_be 4 _ (by rw [p4]; omega)]; omega
    rw [if_pos rfl, if_pos rfl, e, if_pos ⟨be_len _ _, h⟩]
  · have hc0 : c = 0 := by
      rcases h1 with h1 | h1 | h1
      · exact h1.2.2
      · exact h1.2.2
      · exact absurd h1.1 h3
    subst hc0
    rw [if_neg h3, if_neg h3, if_pos h]
theorem kind_lett {b : UInt8} (h : kindOf b ≠ 0) : lett (kindOf b) = [b] := by
  unfold kindOf at *
  by_cases h1 : b = 105
  · subst h1; rfl
  · by_cases h2 : b = 100
    · subst h2; rfl
    · by_cases h3 : b = 99
      · subst h3; rfl
      · by_cases h4 : b = 120
        · subst h4; rfl
        · rw [if_neg h1, if_neg h2, if_neg h3, if_neg h4] at h
          exact absurd rfl h
theorem key_whole {l : List UInt8} (h5 : ¬ l.length < 5) (hk : g1 l ≠ 0) : prefL (g1 l) (g2 l) ++ r5 l = l := by
  match l, h5 with
  | b :: r, h5 =>
    have hk : kindOf b ≠ 0 := hk
    have e : lett (g1 (b :: r)) = [b] := kind_lett hk
    have hr : 4 ≤ r.length := by simp at h5; omega
    unfold prefL
    rw [e, if_neg (by simp)]
    unfold g2 r5
    rw [List.drop_one, List.tail_cons, Int.toNat_natCast, be_num 4 _ (by rw [List.length_take]; omega)]
    simp
  | [], h5 => exact absurd (by decide) h5
theorem g2_range {l : List UInt8} (h5 : ¬ l.length < 5) : 0 ≤ g2 l ∧ g2 l < 4294967296 := by
  have a := num_lt 4 ((l.drop 1).take 4) (by rw [List.length_take, List.length_drop]; omega)
  rw [p4] at a
  unfold g2
  omega
theorem right_kind {k i : Int} {nm : List UInt8} {c : Int} (h : rightK k i nm c = true) : k ≠ 0 := by
  unfold rightK at h
  have h := (of_decide_eq_true h).2
  omega
theorem key_pars {l : List UInt8} {k i : Int} {nm : List UInt8} {c e : Int} (h : parsS l = (k, i, nm, c, e)) (he : e = 0) :
    rightK k i nm c = true ∧ keyL k i nm c = l ∧ (0 ≤ i ∧ i < 4294967296) ∧ 0 ≤ c := by
  subst he
  unfold parsS at h
  by_cases h5 : l.length < 5
  · rw [if_pos h5] at h; simp at h
  · rw [if_neg h5] at h
    by_cases h3 : g1 l = 3
    · rw [if_pos h3] at h
      by_cases hr : (r5 l).length = 4 ∧ rightK 3 (g2 l) [] (num (r5 l)) = true
      · rw [if_pos hr] at h
        simp only [Prod.mk.injEq] at h
        obtain ⟨rfl, rfl, rfl, rfl, _⟩ := h
        have hw := key_whole h5 (by rw [h3]; decide)
        refine ⟨hr.2, ?_, g2_range h5, by omega⟩
        unfold keyL
        rw [if_pos rfl, Int.toNat_natCast, be_num 4 _ hr.1]
        rw [h3] at hw
        exact hw
      · rw [if_neg hr] at h; simp at h
    · rw [if_neg h3] at h
      by_cases hr : rightK (g1 l) (g2 l) (r5 l) 0 = true
      · rw [if_pos hr] at h
        simp only [Prod.mk.injEq] at h
        obtain ⟨rfl, rfl, rfl, rfl, _⟩ := h
        refine ⟨hr, ?_, g2_range h5, by omega⟩
        unfold keyL
        rw [if_neg h3]
        exact key_whole h5 (right_kind hr)
      · rw [if_neg hr] at h; simp at h
theorem key_len {k i : Int} {nm : List UInt8} {c : Int} (h : rightK k i nm c = true) : 5 ≤ (keyL k i nm c).length ∧ (keyL k i nm c).length ≤ 48 := by
  unfold keyL
  rw [List.length_append, prefL_len (lett_ne h)]
  unfold rightK at h
  have h1 := (of_decide_eq_true h).2
  by_cases h3 : k = 3
  · rw [if_pos h3, be_len]; omega
  · rw [if_neg h3]
    have : nm.length ≤ 24 := by
      rcases h1 with h1 | h1 | h1
      · rw [h1.2.1]; decide
      · exact (nameL_iff.1 h1.2.1).2.1
      · exact absurd h1.1 h3
    omega
end Go.Proofs.Ythbljhmjppjcjaa.PM
end

section
/- How a round function comes to its answer: the steps. -/
namespace Go.Proofs.Ythbljhmjppjcjaa.Z
open Go.RowKit Go.Proofs.YthbljhmjppjcjaaW.PrintWords Go.Proofs.YthbljhmjppjcjaaW.PrintLast
set_option linter.unusedVariables false
theorem Ev.val {α : Type} {g : Nat → Option α} {a b : α} (h : Ev g a) (e : a = b) : Ev g b := e ▸ h
theorem Ev.const {α : Type} {x : Option α} {r : α} (h : x = some r) : Ev (fun _ => x) r := ⟨0, fun _ _ => h⟩
theorem Ev.ifp {α : Type} {c : Prop} [Decidable c] {f g : Nat → Option α} {r : α} (hc : c) (h : Ev f r) : Ev (fun k => if c then f k else g k) r := Ev.congr (fun k => if_pos hc) h
theorem Ev.ifn {α : Type} {c : Prop} [Decidable c] {f g : Nat → Option α} {r : α} (hc : ¬ c) (h : Ev g r) : Ev (fun k => if c then f k else g k) r := Ev.congr (fun k => if_neg hc) h
theorem Ev.ite {α : Type} {c : Prop} [Decidable c] {f g : Nat → Option α} {r : α} (h : c → Ev f r) (h2 : ¬ c → Ev g r) : Ev (fun k => if c then f k else g k) r := by
  by_cases hc : c
  · exact Ev.ifp hc (h hc)
  · exact Ev.ifn hc (h2 hc)
theorem Ev.bindc {α β : Type} {x : Option α} {f : Nat → α → Option β} {a : α} {r : β} (h : x = some a) (k : Ev (fun n => f n a) r) : Ev (fun n => x.bind (f n)) r := Ev.bind (Ev.const h) k
theorem Ev.both {α : Type} {g : Nat → Option α} {a b : α} (h : Ev g a) (h2 : Ev g b) : a = b := by
  obtain ⟨K, h⟩ := h
  obtain ⟨K2, h2⟩ := h2
  have e1 := h (max K K2) (by omega)
  have e2 := h2 (max K K2) (by omega)
  rw [e1] at e2
  exact Option.some.inj e2
theorem w64 {i : Int} (h0 : -9223372036854775808 ≤ i) (h1 : i ≤ 9223372036854775807) : wrap64 i = i := by unfold wrap64; omega
theorem bytes_inj {a b : ByteArray} (h : a.toList = b.toList) : a = b := by
  rw [ByteArray.toList_eq, ByteArray.toList_eq] at h
  cases a; cases b; simp_all
end Go.Proofs.Ythbljhmjppjcjaa.Z
end

section
/- Bytes of texts; the reference's Name. -/
namespace Go.Proofs.Ythbljhmjppjcjaa.Z
open Go.RowKit Go.Proofs.YthbljhmjppjcjaaW.PrintWords Go.Proofs.YthbljhmjppjcjaaW.PrintLast Go.Proofs.Ythbljhmjppjcjaa.PM
set_option linter.unusedVariables false
theorem index_mem (l : List UInt8) (c : UInt8) : 0 ≤ Lib.indexByte l c ↔ c ∈ l := by
  induction l with
  | nil => simp [Lib.indexByte]
  | cons b l ih =>
    unfold Lib.indexByte
    by_cases hb : b = c
    · subst hb; simp
    · have hb2 : (b == c) = false := by simpa using hb
      rw [hb2]
      by_cases h1 : Lib.indexByte l c = -1
      · have hn : c ∉ l := fun hm => by have := ih.2 hm; omega
        simp [h1, hn, Ne.symm hb]
      · have := Lib.indexByte_ge l c
        have hm : c ∈ l := ih.1 (by omega)
        have h2 : (Lib.indexByte l c == -1) = false := by simpa using h1
        simp [h2, hm]; omega
theorem bt_get (s : ByteArray) (i : Nat) (h : i < s.data.toList.length) : bt s (i : Int) = ((s.data.toList[i]).toNat : Int) := by
  have hs : i < s.size := by rw [Array.length_toList] at h; exact h
  unfold bt
  rw [dif_pos (by simpa using hs)]
  simp only [Int.toNat_natCast, Array.getElem_toList]
  rfl
theorem byte_eq (x : UInt8) (n : Nat) (hn : n < 256) : ((x.toNat : Int) = n) ↔ x = n.toUInt8 := by
  constructor
  · intro h
    have : x.toNat = n := by omega
    rw [← UInt8.toNat_inj]
    simp [this]; omega
  · intro h; subst h; simp; omega
theorem toList_nil (a : ByteArray) : a.toList = [] ↔ a.data.toList = [] := by rw [ByteArray.toList_eq]
theorem size_len (a : ByteArray) : a.size = a.data.toList.length := by rw [Array.length_toList]; rfl

/-- What the reference's Name asks behind its loop. -/
def tailB (a : ByteArray) : Bool := decide (a.data.toList ≠ [] ∧ a.data.toList.length ≤ 24 ∧ a.data.toList ≠ [46] ∧ a.data.toList ≠ [46, 46])
end Go.Proofs.Ythbljhmjppjcjaa.Z
end

section
/- path.Name, as printed. -/
namespace Go.Proofs.Ythbljhmjppjcjaa.Z
open Go.RowKit Go.Proofs.YthbljhmjppjcjaaW.PrintWords Go.Proofs.YthbljhmjppjcjaaW.PrintLast Go.Proofs.Ythbljhmjppjcjaa.PM
set_option linter.unusedSimpArgs false
theorem contains_f (a : ByteArray) (c : UInt8) : strings_Contains.f a ⟨#[c]⟩ = some (decide (c ∈ a.data.toList)) := by
  unfold strings_Contains.f
  rw [dif_pos (by rfl)]
  have hi := index_mem a.data.toList c
  exact congrArg some (by rw [Bool.eq_iff_iff]; simpa using hi)
theorem name_f (a : ByteArray) : path_Name.f a = some (nameL a.data.toList) := by
  unfold path_Name.f nameL
  rw [ByteArray.toList_eq, contains_f, contains_f]
  have hz := size_len a
  by_cases h1 : a.data.toList = []
  · simp [h1]
  · rw [if_neg h1]
    by_cases h2 : (a.size : Int) ≤ 24
    · rw [if_pos h2]
      have h2' : a.data.toList.length ≤ 24 := by omega
      by_cases h3 : 47 ∈ a.data.toList <;> by_cases h4 : 0 ∈ a.data.toList <;> simp [h1, h3, h4]
      by_cases h5 : a.data.toList = [46]
      · have h2d : decide (a.size ≤ 24) = true := by simp; omega
        by_cases h6 : a.data.toList = [46, 46]
        · simp [h6]
        · simp [h5, h6, h2d]
      · have h2d : decide (a.size ≤ 24) = true := by simp; omega
        by_cases h6 : a.data.toList = [46, 46]
        · simp [h6]
        · simp [h5, h6, h2d]
    · rw [if_neg h2, show decide (a.data.toList ≠ [] ∧ a.data.toList.length ≤ 24 ∧ 47 ∉ a.data.toList ∧ 0 ∉ a.data.toList ∧ a.data.toList ≠ [46] ∧ a.data.toList ≠ [46, 46]) = false by simp; omega]
end Go.Proofs.Ythbljhmjppjcjaa.Z
end

section
/- What numbers', texts', inodes' and keys' functions come to. -/
namespace Go.Proofs.Ythbljhmjppjcjaa.Z
open Go.RowKit Go.Proofs.YthbljhmjppjcjaaW.PrintWords Go.Proofs.YthbljhmjppjcjaaW.PrintLast Go.Proofs.YthbljhmjppjcjaaW.PrintMore Go.Proofs.Ythbljhmjppjcjaa.PM
set_option linter.unusedVariables false
/-! ### Numbers -/
theorem bitLenAux_le : ∀ (f m x : Nat), x < 2 ^ m → Lib.bitLenAux f x ≤ m
  | 0, m, x, h => by simp [Lib.bitLenAux]
  | f + 1, m, x, h => by
    unfold Lib.bitLenAux
    by_cases h0 : x = 0
    · rw [if_pos h0]; omega
    · rw [if_neg h0]
      match m, h with
      | 0, h => simp at h; omega
      | m + 1, h =>
        have := bitLenAux_le f m (x / 2) (by rw [Nat.pow_succ] at h; omega)
        omega
theorem pow_two (w : Nat) : 256 ^ w = 2 ^ (8 * w) := by rw [Nat.pow_mul]
theorem nums_be : ∀ (l : List UInt8), strOfNums (l.map (fun b => (b.toNat : Int))) = ba l := by
  intro l
  unfold strOfNums ba
  rw [List.map_map]
  congr 2
  conv => rhs; rw [← List.map_id l]
  apply List.map_congr_left
  intro b _
  simp
def beI (w n : Nat) : List Int := (be w n).map (fun b => (b.toNat : Int))
theorem set_mid (a b : List Int) (x v : Int) {n : Nat} (h : a.length = n) : (a ++ x :: b).set n v = a ++ v :: b := by subst h; simp
theorem pow_cast (m : Nat) : ((2 : Int) ^ m) = ((2 ^ m : Nat) : Int) := by simp
theorem u64w {x : Int} (h0 : 0 ≤ x) (h1 : x < 18446744073709551616) : IntKind.u64.wrap x = x := IntWalk.u64_in x ⟨h0, by omega⟩
theorem number_l0 (n w : Nat) (hw : w ≤ 8) : ∀ d i : Nat, w = i + d →
    Ev (fun k => pack_Number.l0 k (n : Int) (w : Int) (List.replicate d 0 ++ beI i n) (w : Int) (i : Int)) (ba (be w n), 0)
  | 0, i, hi => by
    refine Ev.step (fun k => by rw [pack_Number.l0]) ?_
    refine Ev.ifn (by omega) (Ev.const ?_)
    obtain rfl : w = i := by omega
    rw [List.replicate_zero, List.nil_append]
    unfold beI
    rw [nums_be]
  | d + 1, i, hi => by
    refine Ev.step (fun k => by rw [pack_Number.l0]) ?_
    have e1 : wrap64 (8 * (i : Int)) = ((8 * i : Nat) : Int) := by rw [w64 (by omega) (by omega)]; omega
    have e2 : wrap64 (wrap64 ((w : Int) - 1) - (i : Int)) = (d : Int) := by rw [w64 (i := (w : Int) - 1) (by omega) (by omega), w64 (by omega) (by omega)]; omega
    have e3 : wrap64 ((i : Int) + 1) = ((i + 1 : Nat) : Int) := by rw [w64 (by omega) (by omega)]; omega
    have hl : (List.replicate (d + 1) (0 : Int) ++ beI i n).length = w := by unfold beI; rw [List.length_append, List.length_replicate, List.length_map, be_len]; omega
    rw [e1, e2, e3]
    refine Ev.ifp (by omega) (Ev.ifp (by omega) (Ev.ifp (by omega) (Ev.ifp (by rw [hl]; omega) ?_)))
    refine Ev.congr (fun k => ?_) (number_l0 n w hw d (i + 1) (by omega))
    have e4 : shr .u64 (n : Int) ((8 * i : Nat) : Int) % 256 = ((n / 256 ^ i % 256 : Nat) : Int) := by
      unfold shr
      rw [Int.toNat_natCast, show IntKind.u64.bits = 64 from rfl, Nat.min_eq_left (by omega), pow_cast, pow_two]
      simp
    have e5 : (List.replicate (d + 1) (0 : Int) ++ beI i n).set ((d : Int)).toNat (((n / 256 ^ i % 256 : Nat) : Int)) = List.replicate d 0 ++ beI (i + 1) n := by
      rw [Int.toNat_natCast, List.replicate_succ', List.append_assoc, List.singleton_append, set_mid _ _ _ _ (by simp)]
      congr 1
      unfold beI
      rw [be_cons, List.map_cons, ofNat_toNat]
    rw [e4, e5]
theorem number_f (n w : Nat) (h1 : 1 ≤ w) (h8 : w ≤ 8) (hn : n < 256 ^ w) : Ev (fun k => pack_Number.f k (n : Int) (w : Int)) (ba (be w n), 0) := by
  unfold pack_Number.f
  have hp : 256 ^ w ≤ 256 ^ 8 := Nat.pow_le_pow_right (by decide) h8
  have hn8 : n < 18446744073709551616 := by have : 256 ^ 8 = 18446744073709551616 := rfl; omega
  have hb : bits_Len64.f (n : Int) = some ((Lib.bitLen n : Nat) : Int) := by
    unfold bits_Len64.f
    rw [if_pos ⟨by omega, by omega⟩, Int.toNat_natCast]
  have hl : Lib.bitLen n ≤ 8 * w := bitLenAux_le 64 (8 * w) n (by rw [← pow_two]; exact hn)
  refine Ev.ifn (by omega) (Ev.ifn (by omega) (Ev.bindc hb ?_))
  have e : decide (((Lib.bitLen n : Nat) : Int) > wrap64 (8 * (w : Int))) = false := by
    rw [w64 (by omega) (by omega)]; simp; omega
  rw [e]
  refine Ev.step (fun k => by rw [pack_Number.j0]) ?_
  refine Ev.ifn (by decide) (Ev.ifp (by omega) (Ev.ifp (by rw [Int.toNat_natCast]; omega) (Ev.bindc rfl ?_)))
  have h := number_l0 n w h8 w 0 (by omega)
  rw [show beI 0 n = [] from rfl, List.append_nil] at h
  rw [Int.toNat_natCast, List.length_replicate]
  exact h
theorem num_f (n : Int) (w : Nat) (h1 : 1 ≤ w) (h8 : w ≤ 8) (h0 : 0 ≤ n) (hn : n.toNat < 256 ^ w) : Ev (fun k => inode_number.f k (IntKind.u64.wrap n) (w : Int)) (ba (be w n.toNat)) := by
  unfold inode_number.f
  have hp : 256 ^ w ≤ 256 ^ 8 := Nat.pow_le_pow_right (by decide) h8
  have p8 : 256 ^ 8 = 18446744073709551616 := rfl
  rw [u64w h0 (by omega)]
  have e : n = ((n.toNat : Nat) : Int) := by omega
  have h := number_f n.toNat w h1 h8 hn
  rw [← e] at h
  exact Ev.bind h (Ev.const rfl)
/-! ### Numbers from bytes -/
/-- So many bytes from the front: their number, what is left, whether they were there. -/
def takeS (w : Nat) (l : List UInt8) : Int × List UInt8 × Int := (if l.length < w then 0 else (num (l.take w) : Int), l.drop w, if l.length < w then 3 else 0)
def ba3 (x : Int × List UInt8 × Int) : Int × ByteArray × Int := (x.1, ba x.2.1, x.2.2)
theorem or_num (x : Nat) (b : Int) (hx : x < 72057594037927936) (h0 : 0 ≤ b) (h1 : b < 256) : Go.bits .or .u64 (IntKind.u64.wrap ((x : Int) * 256)) (IntKind.u64.wrap b) = ((x : Nat) : Int) * 256 + b := by
  rw [u64w (by omega) (by omega), u64w (by omega) (by omega)]
  exact bits_join .u64 64 (by decide) (fun n h0 h1 => u64w h0 (by simpa using h1)) 8 _ _ (by omega) (by omega) (by simp; omega) h0 (by simpa using h1) (by simp; omega)
theorem drop_nil_of {l : List UInt8} {w : Nat} (h : l.length < w) : l.drop w = [] := List.drop_eq_nil_of_le (by omega)
theorem take_num_snoc (l : List UInt8) (i : Nat) (h : i < l.length) : num (l.take (i + 1)) = num (l.take i) * 256 + (l[i]).toNat := by
  rw [List.take_succ_eq_append_getElem h, num_snoc]
theorem ext_end (a : ByteArray) (n : Nat) : a.extract n a.size = ba (a.data.toList.drop n) := by
  have hz := size_len a
  rw [Lib.extract_eq, List.take_of_length_le (by rw [List.length_drop]; omega)]
  rfl
theorem ext_front (a : ByteArray) (n : Nat) : a.extract 0 n = ba (a.data.toList.take n) := by
  rw [Lib.extract_eq]
  rfl
theorem tnum_l0 (a : ByteArray) (w : Nat) (hw : w ≤ 8) (hl : w ≤ a.data.toList.length) : ∀ d i : Nat, w = i + d →
    Ev (fun k => pack_TakeNumber.l0 k a (w : Int) (num (a.data.toList.take i) : Int) (w : Int) (i : Int)) ((num (a.data.toList.take w) : Int), ba (a.data.toList.drop w), 0)
  | 0, i, hi => by
    refine Ev.step (fun k => by rw [pack_TakeNumber.l0]) ?_
    have hz := size_len a
    obtain rfl : w = i := by omega
    refine Ev.ifn (by omega) (Ev.ifp (by omega) (Ev.ifp (by omega) (Ev.const ?_)))
    rw [Int.toNat_natCast, ext_end]
  | d + 1, i, hi => by
    refine Ev.step (fun k => by rw [pack_TakeNumber.l0]) ?_
    have hz := size_len a
    have hlt : i < a.data.toList.length := by omega
    have e3 : wrap64 ((i : Int) + 1) = ((i + 1 : Nat) : Int) := by rw [w64 (by omega) (by omega)]; omega
    have hn := num_lt i (a.data.toList.take i) (by rw [List.length_take]; omega)
    have hp : 256 ^ i ≤ 256 ^ 7 := Nat.pow_le_pow_right (by decide) (by omega)
    have p7 : 256 ^ 7 = 72057594037927936 := rfl
    have hb := (a.data.toList[i]).toNat_lt
    refine Ev.ifp (by omega) (Ev.ifp (by omega) (Ev.ifp (by omega) ?_))
    rw [bt_get a i hlt, or_num _ _ (by omega) (by omega) (by omega), e3]
    have ih := tnum_l0 a w hw hl d (i + 1) (by omega)
    rw [take_num_snoc _ _ hlt] at ih
    refine Ev.congr (fun k => ?_) ih
    congr 1
theorem tnum_f (a : ByteArray) (w : Nat) (h1 : 1 ≤ w) (h8 : w ≤ 8) : Ev (fun k => pack_TakeNumber.f k a (w : Int)) (ba3 (takeS w a.data.toList)) := by
  unfold pack_TakeNumber.f
  have hz := size_len a
  refine Ev.ifn (by omega) ?_
  rw [show decide ((w : Int) > 8) = false by simp; omega]
  refine Ev.step (fun k => by rw [pack_TakeNumber.j0]) ?_
  refine Ev.ifn (by decide) ?_
  by_cases h : a.data.toList.length < w
  · refine Ev.ifp (by omega) (Ev.const ?_)
    unfold ba3 takeS
    rw [if_pos h, if_pos h, drop_nil_of h]
    rfl
  · refine Ev.ifn (by omega) ?_
    refine Ev.val (tnum_l0 a w h8 (by omega) w 0 (by omega)) ?_
    unfold ba3 takeS
    rw [if_neg h, if_neg h]
theorem tknum_f (a : ByteArray) (bad : Bool) (w : Nat) (h1 : 1 ≤ w) (h8 : w ≤ 8) :
    Ev (fun k => inode_taker_number.f k a bad (w : Int)) ((takeS w a.data.toList).1, ba (a.data.toList.drop w), bad || decide (a.data.toList.length < w)) := by
  unfold inode_taker_number.f
  refine Ev.bind (tnum_f a w h1 h8) ?_
  unfold ba3 takeS
  cases bad
  · refine Ev.ifn (by decide) (Ev.const ?_)
    by_cases h : a.data.toList.length < w
    · simp only [if_pos h, decide_eq_true h]; rfl
    · simp only [if_neg h, decide_eq_false h]; rfl
  · exact Ev.ifp rfl (Ev.const (by simp))
/-- A text from the front. -/
def textS (l : List UInt8) : List UInt8 × List UInt8 × Int :=
  if l.length < 2 then ([], [], 3) else if (l.drop 2).length < num (l.take 2) then ([], [], 3) else ((l.drop 2).take (num (l.take 2)), (l.drop 2).drop (num (l.take 2)), 0)
/-! ### Inodes -/
theorem okN_size {k l s : Int} {t : List UInt8} (h : okN k l s t = true) : t.length ≤ 64 := by
  unfold okN at h
  rcases of_decide_eq_true h with h | h | h
  · rw [h.2.2.2]; decide
  · rw [h.2.2.2]; decide
  · exact h.2.2.2.1
def baI (x : Ino) : Int × Int × Int × Int × ByteArray × Int := (x.1, x.2.1, x.2.2.1, x.2.2.2.1, ba x.2.2.2.2.1, x.2.2.2.2.2)
theorem u16w {x : Int} (h0 : 0 ≤ x) (h1 : x < 65536) : IntKind.u16.wrap x = x := by
  simp only [IntKind.wrap, IntKind.bits, IntKind.signed]
  simp
  omega
end Go.Proofs.Ythbljhmjppjcjaa.Z
end

section
/- What the functions on keys come to. -/
namespace Go.Proofs.Ythbljhmjppjcjaa.Z
open Go.RowKit Go.Proofs.YthbljhmjppjcjaaW.PrintWords Go.Proofs.YthbljhmjppjcjaaW.PrintLast Go.Proofs.YthbljhmjppjcjaaW.PrintMore Go.Proofs.Ythbljhmjppjcjaa.PM
set_option linter.unusedVariables false
theorem right_jt (x3 : Bool) (x8 : Int) (y0 y1 : Int) (a : ByteArray) (c : Int) : Ev (fun r => inode_right.j0 r x3 x8 true y0 y1 a c) (x3 && (nameL a.data.toList && c == 0)) := by
  refine Ev.step (fun k => by rw [inode_right.j0]) ?_
  refine Ev.ifp rfl ?_
  cases x3
  · exact Ev.ifn (by decide) (Ev.const rfl)
  · refine Ev.ifp rfl (Ev.bindc (name_f a) ?_)
    by_cases hn : nameL a.data.toList = true
    · exact Ev.ifp hn (Ev.const (by simp [hn]))
    · exact Ev.ifn hn (Ev.const (by simp [hn]))
theorem right_j3 (x3 : Bool) (y0 y1 : Int) (a : ByteArray) (c : Int) : Ev (fun r => inode_right.j0 r x3 3 false y0 y1 a c) (x3 && (decide (a.data.toList = []) && decide (c < 512))) := by
  refine Ev.step (fun k => by rw [inode_right.j0]) ?_
  refine Ev.ifn (by decide) (Ev.ifp rfl ?_)
  cases x3
  · exact Ev.ifn (by decide) (Ev.const rfl)
  · refine Ev.ifp rfl ?_
    rw [ByteArray.toList_eq]
    by_cases hn : a.data.toList = []
    · exact Ev.ifp hn (Ev.const (by simp [hn]))
    · exact Ev.ifn hn (Ev.const (by simp [hn]))
theorem right_jn (x3 : Bool) (x8 : Int) (h8 : ¬ x8 = 3) (y0 y1 : Int) (a : ByteArray) (c : Int) : Ev (fun r => inode_right.j0 r x3 x8 false y0 y1 a c) false := by
  refine Ev.step (fun k => by rw [inode_right.j0]) ?_
  exact Ev.ifn (by decide) (Ev.ifn h8 (Ev.const rfl))
theorem right_f (k i : Int) (a : ByteArray) (c : Int) : Ev (fun r => inode_right.f r k i a c) (rightK k i a.data.toList c) := by
  unfold inode_right.f
  have key : ∀ b : Bool, (b = true ↔ (0 < i ∧ (k = 1 ∧ a.data.toList = [] ∧ c = 0 ∨ (k = 2 ∨ k = 4) ∧ nameL a.data.toList = true ∧ c = 0 ∨ k = 3 ∧ a.data.toList = [] ∧ c < 512))) → b = rightK k i a.data.toList c := fun b h => by
    unfold rightK
    rw [Bool.eq_iff_iff, h, decide_eq_true_eq]
  by_cases h1 : k = 1
  · refine Ev.ifp h1 ?_
    subst h1
    by_cases hi : i > 0
    · refine Ev.ifp hi ?_
      rw [ByteArray.toList_eq]
      by_cases hn : a.data.toList = []
      · refine Ev.ifp hn (Ev.const (congrArg some (key _ ?_)))
        rw [beq_iff_eq]
        exact ⟨fun h => ⟨hi, .inl ⟨rfl, hn, h⟩⟩, fun h => by omega⟩
      · refine Ev.ifn hn (Ev.const (congrArg some (key _ ?_)))
        refine ⟨fun h => absurd h (by decide), fun h => ?_⟩
        rcases h.2 with h | h | h
        · exact absurd h.2.1 hn
        · omega
        · omega
    · refine Ev.ifn hi (Ev.const (congrArg some (key _ ?_)))
      exact ⟨fun h => absurd h (by decide), fun h => absurd h.1 hi⟩
  · refine Ev.ifn h1 ?_
    by_cases h2 : k = 2
    · refine Ev.ifp h2 ?_
      subst h2
      refine Ev.val (right_jt _ _ _ _ _ _) (key _ ?_)
      simp only [decide_eq_true_eq, Bool.and_eq_true, beq_iff_eq]
      refine ⟨fun h => ⟨h.1, .inr (.inl ⟨.inl trivial, h.2.1, h.2.2⟩)⟩, fun h => ⟨h.1, ?_⟩⟩
      rcases h.2 with h | h | h
      · omega
      · exact h.2
      · omega
    · refine Ev.ifn h2 ?_
      by_cases h4 : k = 4
      · subst h4
        refine Ev.val (right_jt _ _ _ _ _ _) (key _ ?_)
        simp only [decide_eq_true_eq, Bool.and_eq_true, beq_iff_eq]
        refine ⟨fun h => ⟨h.1, .inr (.inl ⟨.inr trivial, h.2.1, h.2.2⟩)⟩, fun h => ⟨h.1, ?_⟩⟩
        rcases h.2 with h | h | h
        · omega
        · exact h.2
        · omega
      · rw [show (k == 4) = false by simpa using h4]
        by_cases h3 : k = 3
        · subst h3
          refine Ev.val (right_j3 _ _ _ _ _) (key _ ?_)
          simp only [decide_eq_true_eq, Bool.and_eq_true]
          refine ⟨fun h => ⟨h.1, .inr (.inr ⟨trivial, h.2.1, h.2.2⟩)⟩, fun h => ⟨h.1, ?_⟩⟩
          rcases h.2 with h | h | h
          · omega
          · omega
          · exact h.2
        · refine Ev.val (right_jn _ _ h3 _ _ _ _) (key _ ?_)
          exact ⟨fun h => absurd h (by decide), fun h => by omega⟩
theorem letterOf_lett (k : Int) : (letterOf k = 0 ↔ lett k = []) ∧ letterB k = ba (lett k) := by
  unfold letterOf lett letterB
  by_cases h1 : k = 1
  · subst h1; exact ⟨by decide, rfl⟩
  · rw [if_neg h1, if_neg h1, if_neg h1]
    by_cases h2 : k = 2
    · subst h2; exact ⟨by decide, rfl⟩
    · rw [if_neg h2, if_neg h2, if_neg h2]
      by_cases h3 : k = 3
      · subst h3; exact ⟨by decide, rfl⟩
      · rw [if_neg h3, if_neg h3, if_neg h3]
        by_cases h4 : k = 4
        · subst h4; exact ⟨by decide, rfl⟩
        · rw [if_neg h4, if_neg h4, if_neg h4]
          exact ⟨by simp, rfl⟩
theorem prefix_f (k i : Int) (hk : 0 ≤ k) (hi : 0 ≤ i ∧ i < 4294967296) : Ev (fun r => inode_Prefix.f r k i) (ba (prefL k i)) := by
  unfold inode_Prefix.f prefL
  obtain ⟨h1, h2⟩ := letterOf_lett k
  refine Ev.ifp hk ?_
  by_cases h : letterOf k = 0
  · rw [if_pos (h1.1 h)]
    exact Ev.ifp h (Ev.const rfl)
  · rw [if_neg (fun e => h (h1.2 e))]
    refine Ev.ifn h (Ev.bind (num_f i 4 (by decide) (by decide) hi.1 (by rw [p4]; omega)) (Ev.ifp (by rw [ba_size, be_len]; omega) (Ev.const ?_)))
    rw [h2, ba_app]
theorem rightK_size {k i : Int} {nm : List UInt8} {c : Int} (h : rightK k i nm c = true) : nm.length ≤ 24 ∧ c < 512 := by
  unfold rightK at h
  rcases (of_decide_eq_true h).2 with h1 | h1 | h1
  · rw [h1.2.1]; exact ⟨by decide, by omega⟩
  · exact ⟨(nameL_iff.1 h1.2.1).2.1, by omega⟩
  · rw [h1.2.1]; exact ⟨by decide, by omega⟩
theorem key_f (k i : Int) (a : ByteArray) (c : Int) (hk : 0 ≤ k) (hi : 0 ≤ i ∧ i < 4294967296) (hc : 0 ≤ c) :
    Ev (fun r => inode_Key.f r k i a c) (ba (keyS k i a.data.toList c).1, (keyS k i a.data.toList c).2) := by
  unfold inode_Key.f keyS
  have hz := size_len a
  refine Ev.bind (right_f k i a c) ?_
  by_cases h : rightK k i a.data.toList c = true
  · rw [if_pos h]
    have hl := prefL_len (i := i) (lett_ne h)
    obtain ⟨hn, hc2⟩ := rightK_size h
    refine Ev.ifp h (Ev.bind (prefix_f k i hk hi) ?_)
    unfold keyL
    by_cases h3 : k = 3
    · rw [if_pos h3]
      refine Ev.ifp h3 (Ev.bind (num_f c 4 (by decide) (by decide) hc (by rw [p4]; omega)) (Ev.ifp (by rw [ba_size, ba_size, be_len]; omega) (Ev.const ?_)))
      rw [ba_app]
    · rw [if_neg h3]
      refine Ev.ifn h3 (Ev.ifp (by rw [ba_size]; omega) (Ev.const ?_))
      rw [← ba_app, data_ba]
  · rw [if_neg h]
    exact Ev.ifn h (Ev.const rfl)
/-! ### Parse -/
def baK (x : KeyT) : Int × Int × ByteArray × Int × Int := (x.1, x.2.1, ba x.2.2.1, x.2.2.2.1, x.2.2.2.2)
theorem parse_round (a : ByteArray) (x d c1 c2 c3 c4 K : Int) (hx : 0 ≤ x ∧ x < 5) (hs : 0 < a.size) (hd : d = 0 ∨ d = 1 ∧ c1 = 105 ∧ c2 = 100 ∧ c3 = 99 ∧ c4 = 120) {r : Int × Int × ByteArray × Int × Int}
    (h : Ev (fun k => inode_Parse.l0 k a (x + 1) 1 0 0 0 105 100 99 120 (if letterOf x = bt a 0 then x else K) 0 ⟨#[]⟩ 0) r) :
    Ev (fun k => inode_Parse.l0 k a x d 0 0 0 c1 c2 c3 c4 K 0 ⟨#[]⟩ 0) r := by
  refine Ev.step (fun k => by rw [inode_Parse.l0]) ?_
  have hf : inode_letters_letter.f d 0 0 0 c1 c2 c3 c4 x = some (letterOf x, 1, 0, 0, 0, 105, 100, 99, 120) := by
    unfold inode_letters_letter.f
    rw [if_pos ⟨hx.1, rfl, rfl, hd⟩]
  have he : (x + 1) % 256 = x + 1 := by omega
  refine Ev.ifp hx.2 (Ev.bindc hf (Ev.ifp (by omega) ?_))
  rw [he]
  by_cases hb : letterOf x = bt a 0
  · rw [if_pos hb] at h
    exact Ev.ifp hb h
  · rw [if_neg hb] at h
    exact Ev.ifn hb h
theorem parse_end (a : ByteArray) (K d c1 c2 c3 c4 : Int) (hK : K = g1 a.data.toList) (h5 : ¬ a.data.toList.length < 5) :
    Ev (fun k => inode_Parse.l0 k a 5 d 0 0 0 c1 c2 c3 c4 K 0 ⟨#[]⟩ 0) (baK (parsS a.data.toList)) := by
  refine Ev.step (fun k => by rw [inode_Parse.l0]) ?_
  have hz := size_len a
  have hr := g2_range h5
  have t1 := tknum_f (a.extract 1 a.size) false 4 (by decide) (by decide)
  have e0 : (a.extract 1 a.size).data.toList = a.data.toList.drop 1 := by rw [ext_end, ba_data]
  rw [e0] at t1
  have el : (a.data.toList.drop 1).length = a.data.toList.length - 1 := by simp
  have e1 : (takeS 4 (a.data.toList.drop 1)).1 = g2 a.data.toList := by unfold takeS; rw [if_neg (by omega)]; rfl
  have e2 : (false || decide ((a.data.toList.drop 1).length < 4)) = false := by simp only [Bool.false_or, decide_eq_false_iff_not]; omega
  rw [e1, e2] at t1
  refine Ev.ifn (by omega) (Ev.ifp (by omega) (Ev.bind t1 ?_))
  rw [Int.emod_eq_of_lt hr.1 hr.2]
  have e5 : (a.data.toList.drop 1).drop 4 = r5 a.data.toList := rfl
  simp only [e5]
  have ez : baK (0, 0, [], 0, 4) = (0, 0, ⟨#[]⟩, 0, 4) := rfl
  have lk : 0 ≤ g1 a.data.toList := by unfold g1 kindOf; repeat' split <;> omega
  by_cases h3 : K = 3
  · refine Ev.ifp h3 ?_
    have t2 := tknum_f (ba (r5 a.data.toList)) false 4 (by decide) (by decide)
    rw [ba_data] at t2
    refine Ev.bind t2 ?_
    have hg3 : g1 a.data.toList = 3 := by omega
    have hw := key_whole h5 (by rw [hg3]; decide)
    simp only [Bool.false_or]
    have hn0 : 0 ≤ (takeS 4 (r5 a.data.toList)).1 ∧ (takeS 4 (r5 a.data.toList)).1 < 4294967296 := by
      unfold takeS
      by_cases h4 : (r5 a.data.toList).length < 4
      · simp only [if_pos h4]; omega
      · simp only [if_neg h4]
        have := num_lt 4 ((r5 a.data.toList).take 4) (by rw [List.length_take]; omega)
        rw [p4] at this
        omega
    have bad : ¬ ((r5 a.data.toList).length = 4 ∧ rightK 3 (g2 a.data.toList) [] (num (r5 a.data.toList)) = true) → baK (parsS a.data.toList) = (0, 0, (⟨#[]⟩ : ByteArray), 0, 4) := by
      intro h
      unfold parsS
      rw [if_neg h5, if_pos hg3, if_neg h]
      rfl
    have good : (r5 a.data.toList).length = 4 ∧ rightK 3 (g2 a.data.toList) [] (num (r5 a.data.toList)) = true → baK (parsS a.data.toList) = (3, g2 a.data.toList, (⟨#[]⟩ : ByteArray), (num (r5 a.data.toList) : Int), 0) := by
      intro h
      unfold parsS
      rw [if_neg h5, if_pos hg3, if_pos h]
      rfl
    rw [Int.emod_eq_of_lt hn0.1 hn0.2]
    refine Ev.bind (key_f K (g2 a.data.toList) ⟨#[]⟩ _ (by omega) hr hn0.1) ?_
    by_cases h4 : (r5 a.data.toList).length < 4
    · rw [bad (fun h => by have := h.1; omega)]
      exact Ev.ifp (by simpa using h4) (Ev.const rfl)
    · refine Ev.ifn (by simpa using h4) ?_
      have en : (takeS 4 (r5 a.data.toList)).1 = (num ((r5 a.data.toList).take 4) : Int) := by unfold takeS; rw [if_neg h4]
      rw [en, h3]
      have e0 : (⟨#[]⟩ : ByteArray).data.toList = [] := rfl
      rw [e0]
      by_cases hok : rightK 3 (g2 a.data.toList) [] (num ((r5 a.data.toList).take 4)) = true
      · have hk : keyS 3 (g2 a.data.toList) [] (num ((r5 a.data.toList).take 4)) = (keyL 3 (g2 a.data.toList) [] (num ((r5 a.data.toList).take 4)), 0) := by unfold keyS; rw [if_pos hok]
        rw [hk]
        refine Ev.ifp rfl ?_
        have ek : (ba (keyL 3 (g2 a.data.toList) [] (num ((r5 a.data.toList).take 4)))).toList = prefL 3 (g2 a.data.toList) ++ (r5 a.data.toList).take 4 := by
          rw [ba_toList]
          unfold keyL
          rw [if_pos rfl, Int.toNat_natCast, be_num 4 _ (by rw [List.length_take]; omega)]
        have ea : a.toList = prefL 3 (g2 a.data.toList) ++ r5 a.data.toList := by rw [ByteArray.toList_eq, ← hg3, hw]
        by_cases h44 : (r5 a.data.toList).length = 4
        · have et : (r5 a.data.toList).take 4 = r5 a.data.toList := List.take_of_length_le (by omega)
          rw [et] at hok ek ⊢
          rw [good ⟨h44, hok⟩]
          exact Ev.ifp (by rw [ek, ea]) (Ev.const rfl)
        · rw [bad (fun h => h44 h.1)]
          refine Ev.ifn (fun h => ?_) (Ev.const rfl)
          have h := h
          simp only at h
          rw [ek, ea] at h
          have := congrArg List.length (List.append_cancel_left h)
          rw [List.length_take] at this
          omega
      · have hk : keyS 3 (g2 a.data.toList) [] (num ((r5 a.data.toList).take 4)) = ([], 4) := by unfold keyS; rw [if_neg hok]
        rw [hk, bad (fun h => by rw [List.take_of_length_le (by omega)] at hok; exact hok h.2)]
        exact Ev.ifn (by decide) (Ev.const rfl)
  · refine Ev.ifn h3 ?_
    have hg3 : ¬ g1 a.data.toList = 3 := by omega
    have hk := key_f K (g2 a.data.toList) (ba (r5 a.data.toList)) 0 (by omega) hr (by omega)
    rw [ba_data] at hk
    refine Ev.bind hk (Ev.ifn (by decide) ?_)
    rw [hK]
    by_cases hok : rightK (g1 a.data.toList) (g2 a.data.toList) (r5 a.data.toList) 0 = true
    · have hp : parsS a.data.toList = (g1 a.data.toList, g2 a.data.toList, r5 a.data.toList, 0, 0) := by unfold parsS; rw [if_neg h5, if_neg hg3, if_pos hok]
      have hk : keyS (g1 a.data.toList) (g2 a.data.toList) (r5 a.data.toList) 0 = (keyL (g1 a.data.toList) (g2 a.data.toList) (r5 a.data.toList) 0, 0) := by unfold keyS; rw [if_pos hok]
      rw [hp, hk]
      refine Ev.ifp rfl (Ev.ifp ?_ (Ev.const rfl))
      rw [ba_toList]
      unfold keyL
      rw [if_neg hg3, key_whole h5 (right_kind hok), ByteArray.toList_eq]
    · have hp : parsS a.data.toList = (0, 0, [], 0, 4) := by unfold parsS; rw [if_neg h5, if_neg hg3, if_neg hok]
      have hk : keyS (g1 a.data.toList) (g2 a.data.toList) (r5 a.data.toList) 0 = ([], 4) := by unfold keyS; rw [if_neg hok]
      rw [hp, hk]
      exact Ev.ifn (by decide) (Ev.const rfl)
theorem parse_f (a : ByteArray) (hs : a.size ≤ 9223372036854775807) : Ev (fun k => inode_Parse.f k a) (baK (parsS a.data.toList)) := by
  unfold inode_Parse.f
  have hz := size_len a
  by_cases h5 : a.data.toList.length < 5
  · refine Ev.ifp (by omega) (Ev.const ?_)
    unfold parsS
    rw [if_pos h5]
    rfl
  · refine Ev.ifn (by omega) ?_
    have hd : ∀ d c1 c2 c3 c4 : Int, d = 1 ∧ c1 = 105 ∧ c2 = 100 ∧ c3 = 99 ∧ c4 = 120 → (d = 0 ∨ d = 1 ∧ c1 = 105 ∧ c2 = 100 ∧ c3 = 99 ∧ c4 = 120) := fun _ _ _ _ _ h => .inr h
    refine parse_round a 1 0 0 0 0 0 0 (by decide) (by omega) (.inl rfl) ?_
    refine parse_round a (1 + 1) 1 105 100 99 120 _ (by decide) (by omega) (hd _ _ _ _ _ ⟨rfl, rfl, rfl, rfl, rfl⟩) ?_
    refine parse_round a (1 + 1 + 1) 1 105 100 99 120 _ (by decide) (by omega) (hd _ _ _ _ _ ⟨rfl, rfl, rfl, rfl, rfl⟩) ?_
    refine parse_round a (1 + 1 + 1 + 1) 1 105 100 99 120 _ (by decide) (by omega) (hd _ _ _ _ _ ⟨rfl, rfl, rfl, rfl, rfl⟩) ?_
    refine parse_end a _ 1 105 100 99 120 ?_ h5
    have hlt : 0 < a.data.toList.length := by omega
    have hb := bt_get a 0 hlt
    simp only [Int.ofNat_zero] at hb
    rw [show bt a 0 = ((a.data.toList[0]).toNat : Int) from hb]
    have hg : g1 a.data.toList = kindOf (a.data.toList[0]) := by
      unfold g1
      congr 1
      match a.data.toList, hlt with
      | b :: _, _ => rfl
    rw [hg]
    generalize a.data.toList[0] = b
    have q := fun n (hn : n < 256) => byte_eq b n hn
    have q1 := q 105 (by decide)
    have q2 := q 100 (by decide)
    have q3 := q 99 (by decide)
    have q4 := q 120 (by decide)
    have l1 : letterOf 1 = 105 := rfl
    have l2 : letterOf (1 + 1) = 100 := rfl
    have l3 : letterOf (1 + 1 + 1) = 99 := rfl
    have l4 : letterOf (1 + 1 + 1 + 1) = 120 := rfl
    rw [l1, l2, l3, l4]
    unfold kindOf
    by_cases h1 : b = 105
    · subst h1; rfl
    · by_cases h2 : b = 100
      · subst h2; rfl
      · by_cases h3 : b = 99
        · subst h3; rfl
        · by_cases h4 : b = 120
          · subst h4; rfl
          · rw [if_neg h1, if_neg h2, if_neg h3, if_neg h4, if_neg (fun e => h4 (q4.1 e.symm)), if_neg (fun e => h3 (q3.1 e.symm)), if_neg (fun e => h2 (q2.1 e.symm)), if_neg (fun e => h1 (q1.1 e.symm))]
end Go.Proofs.Ythbljhmjppjcjaa.Z
end

section
/- Paths and names, as lists of bytes: the plain definitions and their laws (no program in sight). -/
namespace Go.Proofs.Ythbljhmjppjcjaa.PM
/-- What stands between slashes. -/
def splitL : List UInt8 → List (List UInt8)
  | [] => [[]]
  | c :: cs => if c = 47 then [] :: splitL cs else match splitL cs with
    | h :: t => (c :: h) :: t
    | [] => [[c]]
theorem splitL_ne (l : List UInt8) : splitL l ≠ [] := by
  cases l with
  | nil => simp [splitL]
  | cons c cs =>
    unfold splitL
    split
    · simp
    · split <;> simp
/-- What has been read ahead is put before the first piece. -/
def pre (a : List UInt8) : List (List UInt8) → List (List UInt8)
  | h :: t => (a ++ h) :: t
  | [] => [a]
theorem splitL_cons_ne {c : UInt8} {cs : List UInt8} (h : c ≠ 47) : splitL (c :: cs) = pre [c] (splitL cs) := by
  conv => lhs; unfold splitL
  rw [if_neg h]
  cases splitL cs <;> rfl
theorem splitL_cons_eq (cs : List UInt8) : splitL (47 :: cs) = [] :: splitL cs := by
  conv => lhs; unfold splitL
  rw [if_pos rfl]
theorem pre_pre (a b : List UInt8) (l : List (List UInt8)) : pre a (pre b l) = pre (a ++ b) l := by cases l <;> simp [pre]
theorem pre_nil {l : List (List UInt8)} (h : l ≠ []) : pre [] l = l := by cases l <;> simp_all [pre]
theorem splitL_pre (a l : List UInt8) (h : 47 ∉ a) : splitL (a ++ l) = pre a (splitL l) := by
  induction a with
  | nil => rw [List.nil_append, pre_nil (splitL_ne l)]
  | cons c a ih =>
    rw [List.cons_append, splitL_cons_ne (fun e => h (by simp [e])), ih (fun e => h (by simp [e])), pre_pre]; rfl
theorem splitL_none (l : List UInt8) (h : 47 ∉ l) : splitL l = [l] := by
  have := splitL_pre l [] h
  rw [List.append_nil] at this
  rw [this]; simp [splitL, pre]
theorem splitL_at (a l : List UInt8) (h : 47 ∉ a) : splitL (a ++ 47 :: l) = a :: splitL l := by
  rw [splitL_pre a _ h, splitL_cons_eq]; simp [pre]
theorem splitL_no_slash : ∀ (l n : List UInt8), n ∈ splitL l → 47 ∉ n
  | [], n, h => by simp [splitL] at h; subst h; simp
  | c :: cs, n, h => by
    by_cases hc : c = 47
    · subst hc; rw [splitL_cons_eq] at h
      rcases List.mem_cons.1 h with rfl | h
      · simp
      · exact splitL_no_slash cs n h
    · rw [splitL_cons_ne hc] at h
      have hn := splitL_ne cs
      have ih := fun m => splitL_no_slash cs m
      cases hs : splitL cs with
      | nil => exact absurd hs hn
      | cons a t =>
        rw [hs] at h ih
        simp only [pre, List.singleton_append, List.mem_cons] at h
        rcases h with rfl | h
        · have := ih a (by simp)
          simp only [List.mem_cons, not_or]; exact ⟨fun e => hc e.symm, this⟩
        · exact ih n (by simp [h])
/-- Names put together: a slash ahead of each. -/
def joinL (ns : List (List UInt8)) : List UInt8 := ns.flatMap (fun n => 47 :: n)
theorem joinL_splitL (l : List UInt8) : joinL (splitL l) = 47 :: l := by
  induction l with
  | nil => simp [joinL, splitL]
  | cons c cs ih =>
    by_cases hc : c = 47
    · subst hc; rw [splitL_cons_eq]; simp only [joinL, List.flatMap_cons] at *; rw [ih]; rfl
    · rw [splitL_cons_ne hc]
      have hn := splitL_ne cs
      cases hs : splitL cs with
      | nil => exact absurd hs hn
      | cons a t =>
        rw [hs] at ih
        simp only [joinL, List.flatMap_cons, pre] at *
        simp only [List.cons_append, List.cons.injEq, true_and] at ih
        simp [ih]
theorem splitL_joinL (ns : List (List UInt8)) (h : ns ≠ []) (hs : ∀ n ∈ ns, 47 ∉ n) : splitL (joinL ns).tail = ns := by
  induction ns with
  | nil => exact absurd rfl h
  | cons n ns ih =>
    simp only [joinL, List.flatMap_cons, List.cons_append, List.tail_cons]
    cases ns with
    | nil => simp [splitL_none n (hs n (by simp))]
    | cons m ms =>
      have ih := ih (by simp) (fun x hx => hs x (by simp [hx]))
      simp only [joinL, List.flatMap_cons, List.cons_append, List.tail_cons] at ih
      simp only [List.flatMap_cons, List.cons_append]
      rw [splitL_at n _ (hs n (by simp)), ih]
theorem joinL_ne {ns : List (List UInt8)} (h : ns ≠ []) : ∃ r, joinL ns = 47 :: r := by
  cases ns with
  | nil => exact absurd rfl h
  | cons n ns => exact ⟨_, by simp [joinL]; rfl⟩
theorem joinL_length (ns : List (List UInt8)) : (joinL ns).length = ns.length + (ns.map List.length).sum := by
  induction ns with
  | nil => rfl
  | cons n ns ih => simp only [joinL, List.flatMap_cons, List.length_append, List.length_cons, List.map_cons, List.sum_cons] at *; omega
theorem joinL_append (a b : List (List UInt8)) : joinL (a ++ b) = joinL a ++ joinL b := by simp [joinL]

/-- A path's names, why there are none. -/
def pathSpec (p : List UInt8) : List (List UInt8) × Int :=
  if 256 < p.length then ([], 2) else match p with
    | [] => ([], 10)
    | c :: rest => if c = 47 then (if rest = [] then ([], 0) else if (splitL rest).all nameL then (splitL rest, 0) else ([], 10)) else ([], 10)
/-- The path of names, why there is none. -/
def joinSpec (ns : List (List UInt8)) : List UInt8 × Int :=
  if ns.all nameL then (if ns = [] then ([47], 0) else if 256 < (joinL ns).length then ([], 2) else (joinL ns, 0)) else ([], 10)
def lastSpec (p : List UInt8) : List (List UInt8) × List UInt8 × Int :=
  if (pathSpec p).2 = 0 then (if (pathSpec p).1 = [] then ([], [], 10) else ((pathSpec p).1.take ((pathSpec p).1.length - 1), (pathSpec p).1.getD ((pathSpec p).1.length - 1) [], 0)) else ([], [], (pathSpec p).2)
theorem name_ne {n : List UInt8} (h : nameL n = true) : n ≠ [] := (nameL_iff.1 h).1
theorem name_slash {n : List UInt8} (h : nameL n = true) : 47 ∉ n := (nameL_iff.1 h).2.2.1
theorem path_cases (p : List UInt8) : (pathSpec p).2 ≠ 0 ∧ (pathSpec p).1 = [] ∨ (p = [47] ∧ pathSpec p = ([], 0)) ∨ ∃ rest, p = 47 :: rest ∧ rest ≠ [] ∧ p.length ≤ 256 ∧ (splitL rest).all nameL = true ∧ pathSpec p = (splitL rest, 0) := by
  unfold pathSpec
  split
  · left; simp
  · rename_i hlen
    cases p with
    | nil => left; simp
    | cons c rest =>
      simp only
      split
      · rename_i hc; subst hc
        split
        · rename_i hr; subst hr; right; left; simp
        · rename_i hr
          split
          · rename_i ha; right; right; exact ⟨rest, rfl, hr, by omega, ha, rfl⟩
          · left; simp
      · left; simp
/-- The names of a path make it. -/
theorem join_path (p : List UInt8) (h : (pathSpec p).2 = 0) : joinSpec (pathSpec p).1 = (p, 0) := by
  rcases path_cases p with h1 | ⟨rfl, h1⟩ | ⟨rest, rfl, hr, hl, ha, h1⟩
  · exact absurd h h1.1
  · rw [h1]; rfl
  · rw [h1]
    unfold joinSpec
    simp only
    rw [if_pos ha, if_neg (splitL_ne rest), joinL_splitL, if_neg (by omega)]
theorem all_name {ns : List (List UInt8)} : ns.all nameL = true ↔ ∀ n ∈ ns, nameL n = true := by simp
/-- The path of names has them. -/
theorem path_join (ns : List (List UInt8)) (h : (joinSpec ns).2 = 0) : pathSpec (joinSpec ns).1 = (ns, 0) := by
  unfold joinSpec at *
  split at h
  · rename_i ha
    rw [if_pos ha]
    split at h
    · rename_i hn; subst hn; rw [if_pos rfl]; rfl
    · rename_i hn
      split at h
      · simp at h
      · rename_i hl
        rw [if_neg hn, if_neg hl]
        obtain ⟨r, hr⟩ := joinL_ne hn
        have hsp := splitL_joinL ns hn (fun n hnn => name_slash (all_name.1 ha n hnn))
        rw [hr] at hsp hl ⊢
        simp only [List.tail_cons] at hsp
        unfold pathSpec
        rw [if_neg hl]
        simp only
        have hrn : r ≠ [] := by
          intro e; subst e
          cases ns with
          | nil => exact hn rfl
          | cons n ns =>
            simp only [joinL, List.flatMap_cons, List.cons_append, List.cons.injEq, true_and, List.append_eq_nil_iff] at hr
            exact name_ne (all_name.1 ha n (by simp)) hr.1
        rw [if_pos trivial, if_neg hrn, hsp, if_pos ha]
  · simp at h
theorem join_bad (ns : List (List UInt8)) (h : (joinSpec ns).2 ≠ 0) : (joinSpec ns).1 = [] := by
  unfold joinSpec at *
  split <;> rename_i ha
  · rw [if_pos ha] at h
    split <;> rename_i hn
    · rw [if_pos hn] at h; simp at h
    · rw [if_neg hn] at h
      split <;> rename_i hl
      · rfl
      · rw [if_neg hl] at h; simp at h
  · rfl
/-- Of a path of some names: the last one, and what is ahead of it. -/
theorem last_path (p : List UInt8) (h : (pathSpec p).2 = 0) (hn : (pathSpec p).1 ≠ []) :
    ∃ ds n, (pathSpec p).1 = ds ++ [n] ∧ lastSpec p = (ds, n, 0) ∧ nameL n = true ∧ joinSpec (ds ++ [n]) = (p, 0) := by
  have hj := join_path p h
  have ha : (pathSpec p).1.all nameL = true := by
    rcases path_cases p with h1 | ⟨rfl, h1⟩ | ⟨rest, rfl, hr, hl, ha, h1⟩
    · exact absurd h h1.1
    · rw [h1] at hn; exact absurd rfl hn
    · rw [h1]; exact ha
  unfold lastSpec
  rw [if_pos h, if_neg hn]
  generalize (pathSpec p).1 = l at *
  have hl : l = l.dropLast ++ [l.getLast hn] := (List.dropLast_concat_getLast hn).symm
  refine ⟨l.dropLast, l.getLast hn, hl, ?_, all_name.1 ha _ (List.getLast_mem hn), by rw [← hl]; exact hj⟩
  rw [← List.dropLast_eq_take]
  congr 2
  rw [List.getD_eq_getElem?_getD, List.getElem?_eq_getElem (by have := List.length_pos_iff.2 hn; omega), Option.getD_some]
  rw [List.getLast_eq_getElem]
end Go.Proofs.Ythbljhmjppjcjaa.PM
end

section
/- What the functions of package path, and the reference's, come to: the plain definitions. -/
namespace Go.Proofs.Ythbljhmjppjcjaa.Z
open Go.RowKit Go.Proofs.YthbljhmjppjcjaaW.PrintWords Go.Proofs.YthbljhmjppjcjaaW.PrintLast Go.Proofs.Ythbljhmjppjcjaa.PM
set_option linter.unusedVariables false
/-! ### Split -/
def baP (x : List (List UInt8) × Int) : List ByteArray × Int := (x.1.map ba, x.2)
theorem cut_f (s : ByteArray) (hs : s.size ≤ 9223372036854775806) :
    (47 ∉ s.data.toList ∧ strings_Cut.f s ⟨#[47]⟩ = some (s, ⟨#[]⟩, false)) ∨
    ∃ a b, s.data.toList = a ++ 47 :: b ∧ 47 ∉ a ∧ strings_Cut.f s ⟨#[47]⟩ = some (ba a, ba b, true) := by
  have hidx : stringslite_Index.f s ⟨#[47]⟩ = some (Lib.indexByte s.data.toList 47) := by unfold stringslite_Index.f; rw [dif_pos (by rfl)]; rfl
  have hz := size_len s
  by_cases h : 0 ≤ Lib.indexByte s.data.toList 47
  · right
    obtain ⟨o, ho⟩ : ∃ o : Nat, Lib.indexByte s.data.toList 47 = o := ⟨_, (Int.toNat_of_nonneg h).symm⟩
    obtain ⟨h1, h2⟩ := Lib.indexByte_some ho
    obtain ⟨hlt, hget⟩ := List.getElem?_eq_some_iff.1 h1
    refine ⟨s.data.toList.take o, s.data.toList.drop (o + 1), ?_, ?_, ?_⟩
    · rw [← hget, ← List.drop_eq_getElem_cons hlt, List.take_append_drop]
    · intro hm
      obtain ⟨j, hj, hje⟩ := List.getElem_of_mem hm
      rw [List.length_take] at hj
      exact h2 j (by omega) (by rw [List.getElem_take] at hje; rw [← hje]; exact List.getElem?_eq_getElem (by omega))
    · unfold strings_Cut.f stringslite_Cut.f
      rw [hidx, ho]
      have s1 : ((⟨#[47]⟩ : ByteArray).size : Int) = 1 := rfl
      simp only [Option.bind_some, s1]
      rw [if_pos (by omega), if_pos (by omega), if_pos (by omega), w64 (by omega) (by omega), if_pos (by omega), if_pos (by omega)]
      simp only [Option.bind_some, Option.some.injEq, Prod.mk.injEq, and_true]
      constructor
      · rw [Lib.extract_eq]; simp [ba]
      · rw [Lib.extract_eq]
        have : ((o : Int) + 1).toNat = o + 1 := by omega
        rw [this, hz]
        unfold ba
        rw [List.take_of_length_le (by simp)]
  · left
    refine ⟨fun hm => h ((index_mem _ _).2 hm), ?_⟩
    unfold strings_Cut.f stringslite_Cut.f
    rw [hidx]
    simp only [Option.bind_some]
    rw [if_neg (by omega)]
    rfl
theorem split_l0 : ∀ (m : Nat) (rest : ByteArray) (acc : List ByteArray), rest.data.toList.length ≤ m → acc.length + rest.data.toList.length ≤ 1000 →
    Ev (fun k => path_Split.l0 k rest acc) (if (splitL rest.data.toList).all nameL then (acc ++ (splitL rest.data.toList).map ba, 0) else ([], 10))
  | m, rest, acc, hm, hb => by
    refine Ev.step (fun k => by rw [path_Split.l0]) ?_
    have hz := size_len rest
    rcases cut_f rest (by omega) with ⟨hno, hc⟩ | ⟨a, b, hab, hno, hc⟩
    · refine Ev.bindc hc (Ev.bindc (name_f _) ?_)
      simp only
      rw [splitL_none _ hno]
      by_cases hn : nameL rest.data.toList = true
      · refine Ev.ifp hn (Ev.ifp (by omega) (Ev.bindc rfl (Ev.ifn (by simp) (Ev.const ?_))))
        simp [hn, data_ba]
      · refine Ev.ifn hn (Ev.const ?_)
        simp [hn]
    · refine Ev.bindc hc (Ev.bindc (name_f _) ?_)
      simp only [ba_data]
      rw [hab, splitL_at _ _ hno]
      have hl : rest.data.toList.length = a.length + b.length + 1 := by rw [hab]; simp; omega
      by_cases hn : nameL a = true
      · refine Ev.ifp hn (Ev.ifp (by omega) (Ev.bindc rfl (Ev.ifp trivial ?_)))
        cases m with
        | zero => omega
        | succ m =>
          have ih := split_l0 m (ba b) (acc ++ [ba a]) (by rw [ba_data]; omega) (by rw [ba_data]; simp; omega)
          rw [ba_data] at ih
          refine Ev.val ih ?_
          simp [hn]
      · refine Ev.ifn hn (Ev.const ?_)
        simp [hn]
theorem cutPrefix_f (s : ByteArray) : strings_CutPrefix.f s ⟨#[47]⟩ = some (match s.data.toList with | 47 :: r => (ba r, true) | _ => (s, false)) := by
  have hz := size_len s
  have s1 : ((⟨#[47]⟩ : ByteArray).size : Int) = 1 := rfl
  have s2 : (⟨#[47]⟩ : ByteArray).toList = [47] := by rw [ByteArray.toList_eq]
  unfold strings_CutPrefix.f stringslite_CutPrefix.f stringslite_HasPrefix.f
  simp only [s1, s2]
  cases hd : s.data.toList with
  | nil =>
    have h0 : s.size = 0 := by rw [hz, hd]; rfl
    rw [if_neg (by omega)]; rfl
  | cons c r =>
    rw [hd] at hz
    simp only [List.length_cons] at hz
    rw [if_pos (by omega), if_pos (by omega), if_pos (by omega)]
    have e1 : (s.extract 0 (1 : Int).toNat).toList = [c] := by rw [Lib.extract_toList, hd]; rfl
    rw [e1]
    by_cases hc : c = 47
    · subst hc
      simp only [Option.bind_some, beq_self_eq_true, if_true]
      rw [if_pos (by omega), if_pos (by omega)]
      simp only [Option.bind_some, Option.some.injEq, Prod.mk.injEq, and_true]
      rw [Lib.extract_eq, hd]
      simp [ba, hz]
    · have hb : ([c] == ([47] : List UInt8)) = false := by simpa using hc
      rw [hb]
      simp only [Option.bind_some]
      rw [if_neg (by simp)]
      split
      · rename_i heq; injection heq with h1 _; exact absurd h1 hc
      · rfl
theorem split_f (p : ByteArray) : Ev (fun k => path_Split.f k p) (baP (pathSpec p.data.toList)) := by
  have hz := size_len p
  unfold path_Split.f pathSpec
  by_cases h256 : (p.size : Int) > 256
  · refine Ev.ifp h256 (Ev.const ?_)
    rw [if_pos (by omega)]; rfl
  · refine Ev.ifn h256 (Ev.bindc (cutPrefix_f p) ?_)
    rw [if_neg (by omega)]
    cases hd : p.data.toList with
    | nil => exact Ev.ifn (by simp) (Ev.const rfl)
    | cons c r =>
      by_cases hc : c = 47
      · subst hc
        refine Ev.ifp rfl ?_
        simp only
        by_cases hr : r = []
        · subst hr
          refine Ev.ifp (by rw [ba_toList]) (Ev.const rfl)
        · refine Ev.ifn (by rw [ba_toList]; exact hr) ?_
          rw [hd] at hz
          simp only [List.length_cons] at hz
          refine Ev.val (split_l0 _ (ba r) [] (Nat.le_refl _) (by rw [ba_data]; simp; omega)) ?_
          rw [ba_data, if_pos trivial, if_neg hr]
          split <;> simp [baP]
      · have : (match c :: r with | 47 :: r => (ba r, true) | _ => (p, false)) = (p, false) := by
          split
          · rename_i heq; injection heq with h1 _; exact absurd h1 hc
          · rfl
        rw [this]
        refine Ev.ifn (by simp) (Ev.const ?_)
        simp only
        rw [if_neg hc]; rfl
/-! ### the reference's Split -/
/-! ### Join -/
theorem rdOf_get (l : List ByteArray) (i : Nat) (h : i < l.length) : rdOf ByteArray.empty l (i : Int) = l[i] := by
  unfold rdOf
  rw [Int.toNat_natCast, List.getD_eq_getElem?_getD, List.getElem?_eq_getElem h, Option.getD_some]
def dataL (l : List ByteArray) : List (List UInt8) := l.map (fun s => s.data.toList)
theorem dataL_len (l : List ByteArray) : (dataL l).length = l.length := by simp [dataL]
theorem all_dataL (l : List ByteArray) : (dataL l).all nameL = l.all (fun s => nameL s.data.toList) := by simp [dataL, List.all_map, Function.comp_def]
def baS (x : List UInt8 × Int) : ByteArray × Int := (ba x.1, x.2)
theorem join_long (ns : List (List UInt8)) (h : ns.all nameL = true) : 2 * ns.length ≤ (joinL ns).length ∧ (joinL ns).length ≤ 25 * ns.length := by
  induction ns with
  | nil => simp [joinL]
  | cons n ns ih =>
    rw [List.all_cons, Bool.and_eq_true] at h
    have ih := ih h.2
    have hn := nameL_iff.1 h.1
    have hp := List.length_pos_iff.2 hn.1
    simp only [joinL, List.flatMap_cons, List.length_append, List.length_cons] at *
    omega
/-! ### Under, Same -/
def underB (a b : List ByteArray) : Bool := decide (a.length ≤ b.length ∧ a = b.take a.length)
theorem toList_inj (a b : ByteArray) : a.toList = b.toList ↔ a = b := by
  rw [ByteArray.toList_eq, ByteArray.toList_eq]
  exact ⟨fun h => by rw [← data_ba a, h, data_ba], fun h => by rw [h]⟩
/-! ### Last -/
def baL (x : List (List UInt8) × List UInt8 × Int) : List ByteArray × ByteArray × Int := (x.1.map ba, ba x.2.1, x.2.2)
end Go.Proofs.Ythbljhmjppjcjaa.Z
end

section
/- What a reading of an argument as data gives a contract: the values of a kind (Kd), well formed, and their bulk. -/
namespace Go.Proofs.Ythbljhmjppjcjaa.Z
open Go.ChangeShapes Go.WideShapes Go.ChangeAt Go.RowKit Go.Deep Go.Proofs.YthbljhmjppjcjaaW.PrintWords Go.Proofs.YthbljhmjppjcjaaW.PrintLast
set_option linter.unusedVariables false
/-- Every reading of type t's cells is one of d, is G, and is of bulk B at least. -/
def Opens {α : Type} (P : Program) (t : TypeId) (d : Kd α) (G : α → Prop) (B : α → Nat) : Prop :=
  d.sz = P.cellsOf t ∧ ∀ {H : Type} {enc : TypeId × Value → H} {w : World} {base : Nat} {spare : Nat → Bool} {held : Bool} {fuel : Nat} {cs : List Value} {x : DataW H × List MemPlace},
    DataW.trod enc P w base spare held fuel t cs = some x → ∃ a, d.K w a cs ∧ G a ∧ B a ≤ Rows.uptoBulk x.1
theorem Opens.bool {P : Program} {t : TypeId} (ht : P.underlying t = some .bool) (hc : P.cellsOf t = 1) : Opens P t Kd.bool (fun _ => True) (fun _ => 1) := by
  refine ⟨hc.symm, fun h => ?_⟩
  obtain ⟨b, rfl, rfl⟩ := DataW.trod_bool ht h
  exact ⟨b, rfl, trivial, by simp [Rows.uptoBulk]⟩
theorem Opens.int {P : Program} {t : TypeId} {k : IntKind} (ht : P.underlying t = some (.int k)) (hc : P.cellsOf t = 1) : Opens P t (Kd.int k) (fun n => (Lit.int k n).wf = true) (fun _ => 1) := by
  refine ⟨hc.symm, fun h => ?_⟩
  obtain ⟨b, rfl, rfl, hw⟩ := DataW.trod_int ht h
  exact ⟨b, rfl, hw, by simp [Rows.uptoBulk]⟩
theorem Opens.string {P : Program} {t : TypeId} (ht : P.underlying t = some .string) (hc : P.cellsOf t = 1) : Opens P t Kd.string (fun s => s.size ≤ maxLen) (fun s => s.size + 1) := by
  refine ⟨hc.symm, fun h => ?_⟩
  obtain ⟨b, rfl, rfl, hw⟩ := DataW.trod_string ht h
  exact ⟨b, rfl, hw, by simp [Rows.uptoBulk]⟩
theorem bulk_len {H : Type} (l : List (DataW H)) {α : Type} {B : α → Nat} (xs : List α) (hl : xs.length = l.length) (h : ∀ (i : Nat) (a : α) (y : DataW H), xs[i]? = some a → l[i]? = some y → B a ≤ Rows.uptoBulk y) : (xs.map B).sum ≤ Rows.uptoBulkAll l := by
  induction l generalizing xs with
  | nil => have : xs = [] := List.eq_nil_of_length_eq_zero hl; subst this; simp [Rows.uptoBulkAll]
  | cons y l ih =>
    cases xs with
    | nil => simp at hl
    | cons a xs =>
      simp only [List.map_cons, List.sum_cons, Rows.uptoBulkAll]
      have h0 := h 0 a y rfl rfl
      have h1 := ih xs (by simpa using hl) (fun i a y ha hy => h (i + 1) a y (by simpa using ha) (by simpa using hy))
      omega
theorem list_of_each {α : Type} (p : Nat → α → Prop) : ∀ n : Nat, (∀ i, i < n → ∃ a, p i a) → ∃ l : List α, l.length = n ∧ ∀ i a, l[i]? = some a → p i a
  | 0, _ => ⟨[], rfl, fun i a h => by simp at h⟩
  | n + 1, h => by
    obtain ⟨l, hl, hp⟩ := list_of_each p n (fun i hi => h i (by omega))
    obtain ⟨a, ha⟩ := h n (by omega)
    refine ⟨l ++ [a], by simp [hl], fun i b hb => ?_⟩
    rcases Nat.lt_or_ge i l.length with hi | hi
    · rw [List.getElem?_append_left hi] at hb; exact hp i b hb
    · have hi2 : i = l.length := by
        have := (List.getElem?_eq_some_iff.1 hb).1
        simp at this; omega
      subst hi2
      have hb2 : a = b := by simpa using hb
      subst hb2
      rw [hl]; exact ha
/-- A slice, opened. -/
theorem Opens.row {α : Type} {P : Program} {t e : TypeId} {d : Kd α} {G : α → Prop} {B : α → Nat} (ht : P.underlying t = some (.slice e)) (hO : Opens P e d G B) (hpos : 0 < P.cellsOf e)
    {H : Type} {enc : TypeId × Value → H} {w : World} {base : Nat} {spare : Nat → Bool} {held : Bool} {fuel : Nat} {cs : List Value} {x : DataW H × List MemPlace} (h : DataW.trod enc P w base spare held fuel t cs = some x) :
    ∃ (A : Option Addr) (c : Nat) (l : List α), cs = [.slice A l.length c] ∧ l.length ≤ c ∧ c ≤ maxLen ∧ Kd.C d w A l.length l ∧ (∀ a ∈ l, G a) ∧ (l.map B).sum + 1 ≤ Rows.uptoBulk x.1 ∧ (x.1 = .nil ∧ l = [] ∨ ∃ el sp, x.1 = .slice el sp ∧ el.length = l.length) := by
  rcases DataW.trod_slice ht h with ⟨rfl, rfl⟩ | ⟨a, len, cap, elems, rest, n, _, rfl, rfl, hb, hl, hm, hlen, hel, _, _⟩
  · exact ⟨none, 0, [], rfl, Nat.le_refl _, Nat.zero_le _, Kd.C_nil _ _, by simp, by simp [Rows.uptoBulk], Or.inl ⟨rfl, rfl⟩⟩
  · have each : ∀ i, i < len → ∃ a' : α, ∃ cs' y, w.cells? base (a.add (i * P.cellsOf e)) (P.cellsOf e) = some cs' ∧ elems[i]? = some y ∧ d.K w a' cs' ∧ G a' ∧ B a' ≤ Rows.uptoBulk y.1 := by
      intro i hi
      have h1 := hel i hi
      obtain ⟨y, hy⟩ : ∃ y, elems[i]? = some y := ⟨elems[i]'(by omega), List.getElem?_eq_getElem (by omega)⟩
      rw [hy, Option.bind_eq_some_iff] at h1
      obtain ⟨cs', hcs, htr⟩ := h1
      obtain ⟨a', hK, hG, hB⟩ := hO.2 htr
      exact ⟨a', cs', y, hcs, hy, hK, hG, hB⟩
    obtain ⟨l, hll, hp⟩ := list_of_each _ len each
    subst hll
    refine ⟨some a, cap, l, rfl, hl, hm, ⟨rfl, by unfold maxLen at hm; omega, fun _ => ⟨a, rfl, fun j p hj => ?_⟩⟩, ?_, ?_, Or.inr ⟨_, _, rfl, by simpa using hlen⟩⟩
    · obtain ⟨cs', y, hcs, _, hK, _, _⟩ := hp j p hj
      obtain ⟨_, hln, hc⟩ := World.cells?_some hcs
      refine ⟨cs', by rw [hln, hO.1], hK, fun i u hu => ?_⟩
      have hi : i < P.cellsOf e := by rw [← hln]; exact (List.getElem?_eq_some_iff.1 hu).1
      have := hc i hi
      rw [hu] at this
      rw [hO.1, ← this]
      congr 1
      have hs : a.spot = none := by
        have h0 := hc 0 hpos
        rw [List.getElem?_eq_getElem (by omega)] at h0
        cases hsp : a.spot with
        | none => rfl
        | some s =>
          rcases Nat.eq_zero_or_pos (j * P.cellsOf e) with hz | hz
          · rw [hz] at h0
            have : w.cell? a = some _ := h0
            unfold World.cell? at this
            rw [hsp] at this
            split at this <;> simp at this
          · have hl0 : 0 < l.length := by have := (List.getElem?_eq_some_iff.1 hj).1; omega
            obtain ⟨p0, hp0⟩ : ∃ p0, l[0]? = some p0 := ⟨l[0], List.getElem?_eq_getElem hl0⟩
            obtain ⟨cs0, y0, hcs0, _, _, _, _⟩ := hp 0 p0 hp0
            obtain ⟨_, hln0, hc0⟩ := World.cells?_some hcs0
            have h00 := hc0 0 hpos
            rw [List.getElem?_eq_getElem (by omega), Nat.zero_mul] at h00
            have : w.cell? a = some _ := h00
            unfold World.cell? at this
            rw [hsp] at this
            split at this <;> simp at this
      obtain ⟨b, o, s⟩ := a
      simp only at hs
      subst hs
      rw [add_at, add_at, add_at, Nat.add_assoc]
    · intro b hb
      obtain ⟨i, hi⟩ := List.getElem?_of_mem hb
      exact (hp i b hi).choose_spec.choose_spec.2.2.2.1
    · simp only [Rows.uptoBulk]
      have := bulk_len (elems.map (·.1)) (B := B) l (by simp [hlen]) (fun i b y hb hy => by
        obtain ⟨cs', y', _, hy', _, _, hB⟩ := hp i b hb
        rw [List.getElem?_map, hy'] at hy
        simp at hy
        subst hy
        exact hB)
      omega
/-- A struct of fields of one cell: each field's cell and reading. -/
theorem flat_fields {P : Program} {t : TypeId} {fs : Array Field} (ht : P.underlying t = some (.struct fs)) (hone : oneCellFields P fs = true) (hC : P.cellsOf t = fs.size)
    {H : Type} {enc : TypeId × Value → H} {w : World} {base : Nat} {spare : Nat → Bool} {held : Bool} {fuel : Nat} {cs : List Value} {x : DataW H × List MemPlace} (h : DataW.trod enc P w base spare held fuel t cs = some x) :
    ∃ (ys : List (DataW H × List MemPlace)) (n : Nat), cs.length = fs.size ∧ ys.length = fs.size ∧ x.1 = .agg (ys.map (·.1)) ∧ ∀ (i : Nat) (f : Field) (c : Value), fs[i]? = some f → cs[i]? = some c → DataW.trod enc P w base spare held n f.type [c] = ys[i]? := by
  obtain ⟨xs, n, _, rfl, hl, hlen, hf⟩ := DataW.trod_struct ht h
  refine ⟨xs, n, hl.trans hC, hlen, rfl, fun i f c hfi hc => ?_⟩
  have h1 := hf i f hfi
  obtain ⟨o0, k0⟩ := hone_of hone i f hfi
  rw [o0, k0] at h1
  rw [← h1]
  congr 1
  have hi := (List.getElem?_eq_some_iff.1 hc).1
  rw [List.drop_eq_getElem_cons hi, List.take_succ_cons, List.take_zero]
  rw [List.getElem?_eq_getElem hi] at hc
  simp at hc
  rw [hc]
/-- A slice among the arguments: its length, by the form's reach. -/
theorem sized_row {H : Type} {P : Program} {ts : List TypeId} {ds : List (DataW H)} {j : Nat} {t e : TypeId} {d : DataW H} {α : Type} {l : List α}
    (hsz : (DataW.weightsEach P ts ds).all (· ≤ reachBytes) = true) (ht : ts[j]? = some t) (hd : ds[j]? = some d) (hu : P.underlying t = some (.slice e)) {b : Nat} (hb : P.bytesOf e = b)
    (hx : d = .nil ∧ l = [] ∨ ∃ el sp, d = .slice el sp ∧ el.length = l.length) : l.length * b ≤ 140737488351232 := by
  rcases hx with ⟨_, rfl⟩ | ⟨el, sp, rfl, hl⟩
  · simp
  · have := sized_slice hsz ht hd hu
    rw [hb, hl] at this
    exact Nat.le_trans (Nat.mul_le_mul_right _ (Nat.le_add_right _ _)) this
/-- A slice that is a field of an argument: its length, by the form's reach. -/
theorem sized_field {H : Type} {P : Program} {ts : List TypeId} {ds : List (DataW H)} {j i : Nat} {t u e : TypeId} {d y : DataW H} {parts : List (DataW H)} {fs : Array Field} {α : Type} {l : List α}
    (hsz : (DataW.weightsEach P ts ds).all (· ≤ reachBytes) = true) (ht : ts[j]? = some t) (hd : ds[j]? = some d) (hx : d = .agg parts) (hu : P.underlying t = some (.struct fs)) (hf : (fs.toList.map (·.type))[i]? = some u) (hp : parts[i]? = some y)
    (hu2 : P.underlying u = some (.slice e)) {b : Nat} (hb : P.bytesOf e = b) (hy : y = .nil ∧ l = [] ∨ ∃ el sp, y = .slice el sp ∧ el.length = l.length) : l.length * b ≤ 140737488351232 := by
  rcases hy with ⟨_, rfl⟩ | ⟨el, sp, rfl, hl⟩
  · simp
  · have h1 : (el.length + sp.length) * P.bytesOf e ∈ DataW.weights P t d := by
      subst hx
      simp only [DataW.weights, hu]
      exact DataW.weights_mem_each hf hp _ (by simp [DataW.weights, hu2])
    have h2 := List.all_eq_true.1 hsz _ (DataW.weights_mem_each ht hd _ h1)
    rw [decide_eq_true_eq, hb, hl] at h2
    exact Nat.le_trans (Nat.mul_le_mul_right _ (Nat.le_add_right _ _)) h2
theorem string_len {s : ByteArray} : s.data.toList.length = s.size := by rw [Array.length_toList]; rfl
end Go.Proofs.Ythbljhmjppjcjaa.Z
end

section
-- Printed by a program of this session (mp.py): what a reading gives of the kinds that are arguments.
namespace Go.Proofs.Ythbljhmjppjcjaa.Z
open Go.ChangeShapes Go.WideShapes Go.ChangeAt Go.RowKit Go.Deep Go.Proofs.YthbljhmjppjcjaaW.PrintWords
set_option linter.unusedVariables false
end Go.Proofs.Ythbljhmjppjcjaa.Z
end

section
/- TopKeyed, over lists: the law's function answers true. -/
namespace Go.Proofs.Ythbljhmjppjcjaa.Pure
open Go.RowKit Go.Proofs.Ythbljhmjppjcjaa Go.Proofs.Ythbljhmjppjcjaa.Z Go.Proofs.YthbljhmjppjcjaaW.PrintWords Go.Proofs.Ythbljhmjppjcjaa.PM
set_option linter.unusedVariables false
set_option linter.unusedSimpArgs false
theorem tk_right {i : Int} {m : List UInt8} (hi : 0 < i) (hm : nameL m = true) : rightK 2 i m 0 = true := by
  unfold rightK
  exact decide_eq_true ⟨hi, .inr (.inl ⟨.inl rfl, hm, rfl⟩)⟩
theorem tk_keyL (i : Int) (m : List UInt8) : keyL 2 i m 0 = prefL 2 i ++ m := by
  unfold keyL
  rw [if_neg (by decide)]
theorem tk_key {i : Int} {m : List UInt8} (hi : 0 < i ∧ i < 4294967296) (hm : nameL m = true) : Ev (fun r => inode_Key.f r 2 i (ba m) 0) (ba (keyL 2 i m 0), 0) := by
  have h := key_f 2 i (ba m) 0 (by decide) ⟨by omega, hi.2⟩ (by decide)
  rw [ba_data] at h
  unfold keyS at h
  rw [if_pos (tk_right hi.1 hm)] at h
  exact h
theorem tk_parse {i : Int} {m : List UInt8} (hi : 0 < i ∧ i < 4294967296) (hm : nameL m = true) : Ev (fun r => inode_Parse.f r (ba (keyL 2 i m 0))) (2, i, ba m, 0, 0) := by
  have hl := key_len (tk_right hi.1 hm)
  have h := parse_f (ba (keyL 2 i m 0)) (by rw [ba_size]; omega)
  rw [ba_data, pars_key (tk_right hi.1 hm) ⟨by omega, hi.2⟩ (by decide)] at h
  exact h
theorem tk_rd (L : List (List UInt8)) (j : Nat) (h : j < L.length) : rdOf ByteArray.empty (L.map ba) (j : Int) = ba L[j] := by
  rw [rdOf_get _ _ (by rw [List.length_map]; exact h), List.getElem_map]
theorem tk_l1 {i : Int} (hi : 0 < i ∧ i < 4294967296) (ns : List (List UInt8)) (n : List UInt8) (hn : nameL n = true) (x35 : Int) (L : List (List UInt8)) (hL : ∀ m ∈ L, nameL m = true) (hlen : L.length ≤ 1000)
    (next : Ev (fun r => cambiumtop_TopKeyed.l0 r i (ns.map ba) (ba (prefL 2 i)) (ns.map ba) ((ns.map ba).length : Int) (wrap64 (x35 + 1))) true) : ∀ d j : Nat, L.length = j + d →
    Ev (fun r => cambiumtop_TopKeyed.l1 r i (ns.map ba) (ba (prefL 2 i)) (ba n) (ba (keyL 2 i n 0)) (ns.map ba) ((ns.map ba).length : Int) x35 (L.map ba) ((L.map ba).length : Int) (j : Int)) true := by
  intro d
  induction d with
  | zero =>
    intro j hj
    refine Ev.step (fun k => by rw [cambiumtop_TopKeyed.l1]) ?_
    exact Ev.ifn (by rw [List.length_map]; omega) next
  | succ d ih =>
    intro j hj
    have hjl : j < L.length := by omega
    have hm := hL _ (List.getElem_mem hjl)
    refine Ev.step (fun k => by rw [cambiumtop_TopKeyed.l1]) ?_
    rw [tk_rd L j hjl]
    refine Ev.ifp (by rw [List.length_map]; omega) (Ev.ifp (by omega) (Ev.ifp (by rw [List.length_map]; omega) (Ev.bind (tk_key hi hm) ?_)))
    have e1 : Op.bytesLess (ba (keyL 2 i n 0)).toList (ba (keyL 2 i L[j] 0)).toList = Op.bytesLess (ba n).toList (ba L[j]).toList := by
      rw [ba_toList, ba_toList, ba_toList, ba_toList, tk_keyL, tk_keyL, bl_pre]
    have e2 : ((ba (keyL 2 i n 0)).toList == (ba (keyL 2 i L[j] 0)).toList) = ((ba n).toList == (ba L[j]).toList) := by
      rw [ba_toList, ba_toList, ba_toList, ba_toList, tk_keyL, tk_keyL, Bool.eq_iff_iff]
      simp only [beq_iff_eq, List.append_cancel_left_eq]
    refine Ev.ifn (by rw [e1]; simp) (Ev.ifn (by rw [e2]; simp) ?_)
    rw [show wrap64 ((j : Int) + 1) = ((j + 1 : Nat) : Int) by rw [w64 (by omega) (by omega)]; omega]
    exact ih (j + 1) (by omega)
theorem tk_l0 {i : Int} (hi : 0 < i ∧ i < 4294967296) (ns : List (List UInt8)) (hn : ∀ m ∈ ns, nameL m = true) (hlen : ns.length ≤ 1000) : ∀ d j : Nat, ns.length = j + d →
    Ev (fun r => cambiumtop_TopKeyed.l0 r i (ns.map ba) (ba (prefL 2 i)) (ns.map ba) ((ns.map ba).length : Int) (j : Int)) true := by
  intro d
  induction d with
  | zero =>
    intro j hj
    refine Ev.step (fun k => by rw [cambiumtop_TopKeyed.l0]) ?_
    exact Ev.ifn (by rw [List.length_map]; omega) (Ev.const rfl)
  | succ d ih =>
    intro j hj
    have hjl : j < ns.length := by omega
    have hm := hn _ (List.getElem_mem hjl)
    refine Ev.step (fun k => by rw [cambiumtop_TopKeyed.l0]) ?_
    rw [tk_rd ns j hjl]
    refine Ev.ifp (by rw [List.length_map]; omega) (Ev.ifp (by omega) (Ev.ifp (by rw [List.length_map]; omega) (Ev.bind (tk_key hi hm) (Ev.bind (tk_parse hi hm) ?_))))
    have e0 : ((ba (keyL 2 i ns[j] 0)).extract 0 (((ba (prefL 2 i)).size : Int) : Int).toNat).toList = (ba (prefL 2 i)).toList := by
      rw [Int.toNat_natCast, ext_front, ba_toList, ba_data, ba_size, ba_toList, tk_keyL]
      exact tk rfl
    refine Ev.ifp rfl (Ev.ifp (by omega) (Ev.ifp (by rw [ba_size, ba_size, tk_keyL, List.length_append]; omega) (Ev.ifp e0 (Ev.ifp rfl (Ev.ifp rfl ?_)))))
    refine Ev.step (fun k => by rw [cambiumtop_TopKeyed.j2]) ?_
    refine Ev.ifn (by simp) (Ev.ifp (by omega) (Ev.ifp (by rw [List.length_map]; omega) (Ev.bindc rfl ?_)))
    have ht : (ns.map ba).take ((j : Int) : Int).toNat = (ns.take j).map ba := by rw [Int.toNat_natCast, List.map_take]
    rw [ht]
    have next : Ev (fun r => cambiumtop_TopKeyed.l0 r i (ns.map ba) (ba (prefL 2 i)) (ns.map ba) ((ns.map ba).length : Int) (wrap64 ((j : Int) + 1))) true := by
      rw [show wrap64 ((j : Int) + 1) = ((j + 1 : Nat) : Int) by rw [w64 (by omega) (by omega)]; omega]
      exact ih (j + 1) (by omega)
    exact tk_l1 hi ns ns[j] hm (j : Int) (ns.take j) (fun m h => hn m (List.mem_of_mem_take h)) (by rw [List.length_take]; omega) next (ns.take j).length 0 (by omega)
theorem TopKeyed : ∀ (a0 : ByteArray) (a1 : Int), a0.size ≤ 140737488351232 → (Lit.int .u32 a1).wf = true → ∃ k, Z.cambiumtop_TopKeyed.f k a0 a1 = some true := by
  intro p i _ hw
  have hi : 0 ≤ i ∧ i < 4294967296 := by
    simp [Lit.wf, IntKind.min, IntKind.max, IntKind.signed, IntKind.bits] at hw
    omega
  refine Ev.rounds (g := fun k => Z.cambiumtop_TopKeyed.f k p i) ?_
  unfold cambiumtop_TopKeyed.f
  refine Ev.bindc rfl (Ev.ifp rfl (Ev.bind (split_f p) ?_))
  rcases path_cases p.data.toList with ⟨h, _⟩ | h
  · refine Ev.ifn h (Ev.step (fun k => by rw [cambiumtop_TopKeyed.j0]) ?_)
    exact Ev.ifp rfl (Ev.const rfl)
  · have h2 : ∃ ns, pathSpec p.data.toList = (ns, 0) ∧ (∀ m ∈ ns, nameL m = true) ∧ ns.length ≤ 1000 := by
      rcases h with ⟨_, h⟩ | ⟨rest, hp, hne, hl, ha, h⟩
      · exact ⟨[], h, by simp, by simp⟩
      · refine ⟨_, h, fun m hm => List.all_eq_true.1 ha m hm, ?_⟩
        have h1 := joinL_length (splitL rest)
        rw [joinL_splitL] at h1
        rw [hp] at hl
        omega
    obtain ⟨ns, hs, hn, hlen⟩ := h2
    rw [hs]
    refine Ev.ifp rfl (Ev.step (fun k => by rw [cambiumtop_TopKeyed.j0]) ?_)
    by_cases h0 : i = 0
    · exact Ev.ifp (by simp [h0]) (Ev.const rfl)
    · have hpf := prefix_f 2 i (by decide) hi
      exact Ev.ifn (by simpa using h0) (Ev.bind hpf (tk_l0 (by omega) ns hn hlen ns.length 0 (by omega)))
end Go.Proofs.Ythbljhmjppjcjaa.Pure
end

section
/- cambium/cambiumtop.TopKeyed: at every input the law's function returns true, and each argument reads afterwards as before. Conditions: none beyond the row's own. Printed by a program of this session (mp.py) over the pure statement in YthbljhmjppjcjaaPureTopKeyed. -/
namespace Go.Proofs.Ythbljhmjppjcjaa.topKeyed
open Go.ChangeShapes Go.WideShapes Go.ChangeAt Go.RowKit
open Go.ChangeMaps (open_string shut_string)
set_option linter.unusedVariables false
set_option linter.unusedSimpArgs false
theorem own : ownKnob Try.prog.godebug = none := by kernel_rfl
theorem laidOut : laidOutB Try.prog = true := by kernel_rfl
set_option maxHeartbeats 1000000 in
set_option maxRecDepth 100000 in
theorem lifted (os : Os) (started : os.Started) (H : Type) (enc : TypeId × Value → H) :
    ReturnsInHanded {} Try.checked os 3 .any (Rows.topKeyedSpec.pre6 enc Try.prog Try.f3 Rows.topKeyedRow.domain false) (Rows.topKeyedSpec.post enc Try.prog Try.f3 false true false false) := by
  refine returnsInHanded_of_change_sized (C := Try.checked) own started (by kernel_rfl) Try.func3
    (ChangeSpec.witness6 (enc := enc) (C := Try.checked) false ⟨#[], #[.string ByteArray.empty, .int .u32 0], []⟩ 8 (by kernel_rfl) (by kernel_rfl) (by kernel_rfl) (by kernel_rfl)) ?_
  intro W base args ds gs before hval0 hW hcnd hwz_ _
  have hsz : (DataW.weightsEach Try.prog (Try.f3.params.toList ++ Rows.topKeyedSpec.plain.varTypes Try.prog) (ds ++ gs)).all (· ≤ reachBytes) = true := hwz_
  have hval : ∀ (j : Nat) t v, Try.f3.params[j]? = some t → args[j]? = some v → Value.okWide Try.prog W .any base t v := hval0
  have hW' := hW
  obtain ⟨p, q, hA0, hV, rfl, hfz, hnd⟩ := hW
  have hA : DataW.TrodAll enc Try.prog W 0 (fun _ => true) true Try.f3.params.toList args.toList ds p := hA0
  rw [Try.params3] at hA hval hsz
  obtain ⟨v0, vs0, d0, ds0, p0, q0, hargs, rfl, rfl, h0, r0⟩ := trodAll_cons hA
  obtain ⟨v1, vs1, d1, ds1, p1, q1, rfl, rfl, rfl, h1, r1⟩ := trodAll_cons r0
  obtain ⟨rfl, rfl, rfl⟩ := trodAll_nil r1
  obtain rfl : args = #[v0, v1] := by cases args; simp_all
  obtain ⟨rfl, rfl⟩ := trodVars_none hV
  have k0 := h0
  have lt0 : ∀ x ∈ p0, x.block < W.heap.size := by obtain ⟨m, hm⟩ := k0; exact DataW.trod_lt m _ _ _ hm
  obtain ⟨a0, rfl, rfl, rfl, y0⟩ := open_string Try.underlying9 (hval 0 9 v0 rfl rfl) h0
  have w0 : a0.size ≤ 140737488351232 := by
    have z := sized_string hsz (j := 0) (t := 9) rfl rfl
    rw [Array.length_toList] at z
    exact z
  have k1 := h1
  have lt1 : ∀ x ∈ p1, x.block < W.heap.size := by obtain ⟨m, hm⟩ := k1; exact DataW.trod_lt m _ _ _ hm
  obtain ⟨a1, rfl, rfl, rfl, w1⟩ := open_int Try.underlying22 (hval 1 22 v1 rfl rfl) h1
  have hP := Pure.TopKeyed a0 a1 w0 w1
  obtain ⟨k, hk⟩ := hP
  refine (Z.cambiumtop_TopKeyed.calls k a0 a1 true W  hk).mono fun e W' ⟨he, bel0⟩ => ?_
  have bel : Below W.heap.size W W' := bel0
  subst he
  exact ⟨_, rfl, _, _, _, [], _, [], hW', trodAll_mk1 (shut_bool Try.underlying4 _), (trodAll_cons_mk (Below.trod laidOut (by kernel_rfl) (of_decide_eq_true (by kernel_rfl)) k0 bel lt0) (trodAll_cons_mk (Below.trod laidOut (by kernel_rfl) (of_decide_eq_true (by kernel_rfl)) k1 bel lt1) trodAll_mk0)), rfl, bel.frame _, fun h => by cases h⟩
theorem over : Rows.topKeyedRow.holds Try.pinned (OpenSpec.ofChange Rows.topKeyedSpec) :=
  OpenClaim.holds_of_wide 3 Try.f3 rfl rfl rfl rfl rfl rfl rfl ⟨rfl, rfl, rfl, rfl, rfl⟩ rfl rfl rfl rfl rfl (by kernel_rfl) Try.func3 (by kernel_rfl)
    (of_decide_eq_true (by kernel_rfl)) (by unfold Func.isWrapper; first | (rw [if_pos (by decide +kernel)]; kernel_rfl) | (rw [if_neg (by decide +kernel)]; exact ⟨rfl, rfl⟩))
    (fun os started H enc _ => lifted os started H enc)
end Go.Proofs.Ythbljhmjppjcjaa.topKeyed
namespace Go.Proofs.Ythbljhmjppjcjaa
theorem topKeyed_holds : Rows.TopKeyedSaid := topKeyed.over
#print axioms topKeyed_holds
end Go.Proofs.Ythbljhmjppjcjaa
end
