/- DirsFound: at every input the law's function returns true and leaves its arguments as they were; no condition beyond the row's own. Part 5 of 5: this session's own texts, laid together. -/
import Derived.Test.YtpnmajblhgnkoaaMB1
import Derived.Test.YtpnmajblhgnkoaaMB4
import Derived.Test.YtpnmajblhgnkoaaMB3
import Derived.Test.YtpnmajblhgnkoaaMB2
import Derived.Test.YtpnmajblhgnkoaaRows
import Derived.WalkKit
import Derived.ProofKit
import Derived.OpenShut
import Derived.ShutString
import Derived.ChangeOld
import Derived.Below
import Derived.SizedLaws
import Derived.Carry
section
-- Printed by a program of this session (mp.py) out of the translation.
namespace Go.Proofs.Ytpnmajblhgnkoaa.Z
open Go.RowKit Go.Proofs.YtpnmajblhgnkoaaW.PrintWords Go.Proofs.YtpnmajblhgnkoaaW.PrintLast Go.Proofs.YtpnmajblhgnkoaaW.PrintMore
attribute [local go_sem] max2_int min2_int max_two min_two max_three min_three max_four min_four   -- for this text's walks alone
set_option linter.unusedVariables false
set_option linter.unusedSimpArgs false

/-! ### cambiumlaw14_DirsFound: function 3 -/
mutual
def cambiumlaw14_DirsFound.j0 : Nat → List (S61) → List ByteArray → ByteArray → List (S34) → Bool → Option (Bool)
  | 0, _, _, _, _, _ => none
  | k + 1, x0, x1, x2, x9, x39 => if x39 = true then (some true) else (cambiumlaw14_DirsFound.l0 k x0 x1 x2 x9 false x9 (x9.length : Int) 0)
def cambiumlaw14_DirsFound.l0 : Nat → List (S61) → List ByteArray → ByteArray → List (S34) → Bool → List (S34) → Int → Int → Option (Bool)
  | 0, _, _, _, _, _, _, _, _ => none
  | k + 1, x0, x1, x2, x9, x11, x40, x41, x42 => if x42 < x41 then (if 0 ≤ x42 then (if x42 < (x40.length : Int) then ((some (([] : List ByteArray) : List ByteArray)).bind fun y271 => (if y271.length + x1.length < 8796093022208 then ((some (y271 ++ x1 : List ByteArray)).bind fun y274 => ((some (([(rd_T34 x40 x42).f0] : List ByteArray) : List ByteArray)).bind fun y277 => (if y274.length + y277.length < 8796093022208 then ((dirs_Walk.f k x0 (y274 ++ y277) false).bind fun bt283 => ((dirs_Get.f k x0 bt283.1).bind fun bt285 => (if bt283.2 = 0 then (if bt283.1 = ((rd_T34 x40 x42).f1) then (if bt285.2.2.2.2.2 = 0 then (if bt285.1 = ((rd_T34 x40 x42).f2) then (if x42 > 0 then (if 0 ≤ (wrap64 (x42 - 1)) then (if (wrap64 (x42 - 1)) < (x9.length : Int) then (if ((Op.bytesLess (((rd_T34 x9 (wrap64 (x42 - 1))).f0).toList) (((rd_T34 x40 x42).f0).toList)) = true) then (if x11 = true then (cambiumlaw14_DirsFound.l0 k x0 x1 x2 x9 true x40 x41 (wrap64 (x42 + 1))) else (cambiumlaw14_DirsFound.l0 k x0 x1 x2 x9 (((rd_T34 x40 x42).f0).toList == x2.toList) x40 x41 (wrap64 (x42 + 1)))) else (some false)) else (none)) else (none)) else (if x11 = true then (cambiumlaw14_DirsFound.l0 k x0 x1 x2 x9 true x40 x41 (wrap64 (x42 + 1))) else (cambiumlaw14_DirsFound.l0 k x0 x1 x2 x9 (((rd_T34 x40 x42).f0).toList == x2.toList) x40 x41 (wrap64 (x42 + 1))))) else (some false)) else (some false)) else (some false)) else (some false)))) else (none)))) else (none))) else (none)) else (none)) else ((some (([] : List ByteArray) : List ByteArray)).bind fun y255 => (if y255.length + x1.length < 8796093022208 then ((some (y255 ++ x1 : List ByteArray)).bind fun y258 => ((some (([x2] : List ByteArray) : List ByteArray)).bind fun y261 => (if y258.length + y261.length < 8796093022208 then ((dirs_Walk.f k x0 (y258 ++ y261) false).bind fun bt267 => (some (x11 == (bt267.2 == 0)))) else (none)))) else (none)))
end
def cambiumlaw14_DirsFound.f (k : Nat) (l0 : List (S61)) (l1 : List ByteArray) (a2 : ByteArray) : Option (Bool) := (cambiumlaw14_lives.f k).bind fun t248 => (if t248 = true then ((dirs_Walk.f k l0 l1 true).bind fun bt249 => ((dirs_List.f k l0 bt249.1).bind fun bt251 => (if bt249.2 = 0 then (cambiumlaw14_DirsFound.j0 k l0 l1 a2 bt251.1 (bt251.2 != 0)) else (cambiumlaw14_DirsFound.j0 k l0 l1 a2 bt251.1 true)))) else (some false))
theorem cambiumlaw14_DirsFound.mono_l : ∀ k, (∀ y0 y1 y2 y3 y4, LeO (cambiumlaw14_DirsFound.j0 k y0 y1 y2 y3 y4) (cambiumlaw14_DirsFound.j0 (k + 1) y0 y1 y2 y3 y4)) ∧ (∀ y0 y1 y2 y3 y4 y5 y6 y7, LeO (cambiumlaw14_DirsFound.l0 k y0 y1 y2 y3 y4 y5 y6 y7) (cambiumlaw14_DirsFound.l0 (k + 1) y0 y1 y2 y3 y4 y5 y6 y7))
  | 0 => ⟨fun _ _ _ _ _ r h => by simp [cambiumlaw14_DirsFound.j0] at h, fun _ _ _ _ _ _ _ _ r h => by simp [cambiumlaw14_DirsFound.l0] at h⟩
  | k + 1 => by
    obtain ⟨ih0, ih1⟩ := cambiumlaw14_DirsFound.mono_l k
    refine ⟨?_, ?_⟩
    · intro y0 y1 y2 y3 y4
      unfold cambiumlaw14_DirsFound.j0
      repeat' first
      | (with_reducible exact ih0 _ _ _ _ _)
      | (with_reducible exact ih1 _ _ _ _ _ _ _ _)
      | (with_reducible exact cambiumlaw14_lives.mono _)
      | (with_reducible exact dirs_Get.mono _ _ _)
      | (with_reducible exact dirs_List.mono _ _ _)
      | (with_reducible exact dirs_Walk.mono _ _ _ _)
      | (with_reducible exact LeO.refl _)
      | (with_reducible exact LeO.none _)
      | (with_reducible refine LeO.ite ?_ ?_)
      | (with_reducible refine LeO.bind ?_ (fun _ => ?_))
      | exact ih0 _ _ _ _ _
      | exact ih1 _ _ _ _ _ _ _ _
      | exact cambiumlaw14_lives.mono _
      | exact dirs_Get.mono _ _ _
      | exact dirs_List.mono _ _ _
      | exact dirs_Walk.mono _ _ _ _
      | exact LeO.none _
      | refine LeO.ite ?_ ?_
      | refine LeO.bind ?_ (fun _ => ?_)
    intro y0 y1 y2 y3 y4 y5 y6 y7
    unfold cambiumlaw14_DirsFound.l0
    repeat' first
    | (with_reducible exact ih0 _ _ _ _ _)
    | (with_reducible exact ih1 _ _ _ _ _ _ _ _)
    | (with_reducible exact cambiumlaw14_lives.mono _)
    | (with_reducible exact dirs_Get.mono _ _ _)
    | (with_reducible exact dirs_List.mono _ _ _)
    | (with_reducible exact dirs_Walk.mono _ _ _ _)
    | (with_reducible exact LeO.refl _)
    | (with_reducible exact LeO.none _)
    | (with_reducible refine LeO.ite ?_ ?_)
    | (with_reducible refine LeO.bind ?_ (fun _ => ?_))
    | exact ih0 _ _ _ _ _
    | exact ih1 _ _ _ _ _ _ _ _
    | exact cambiumlaw14_lives.mono _
    | exact dirs_Get.mono _ _ _
    | exact dirs_List.mono _ _ _
    | exact dirs_Walk.mono _ _ _ _
    | exact LeO.none _
    | refine LeO.ite ?_ ?_
    | refine LeO.bind ?_ (fun _ => ?_)
theorem cambiumlaw14_DirsFound.mono : ∀ a0 a1 a2 k, LeO (cambiumlaw14_DirsFound.f k a0 a1 a2) (cambiumlaw14_DirsFound.f (k + 1) a0 a1 a2) := by
  intro a0 a1 a2 k
  obtain ⟨ih0, ih1⟩ := cambiumlaw14_DirsFound.mono_l k
  unfold cambiumlaw14_DirsFound.f
  repeat' first
      | (with_reducible exact ih0 _ _ _ _ _)
      | (with_reducible exact ih1 _ _ _ _ _ _ _ _)
      | (with_reducible exact cambiumlaw14_lives.mono _)
      | (with_reducible exact dirs_Get.mono _ _ _)
      | (with_reducible exact dirs_List.mono _ _ _)
      | (with_reducible exact dirs_Walk.mono _ _ _ _)
      | (with_reducible exact LeO.refl _)
      | (with_reducible exact LeO.none _)
      | (with_reducible refine LeO.ite ?_ ?_)
      | (with_reducible refine LeO.bind ?_ (fun _ => ?_))
      | exact ih0 _ _ _ _ _
      | exact ih1 _ _ _ _ _ _ _ _
      | exact cambiumlaw14_lives.mono _
      | exact dirs_Get.mono _ _ _
      | exact dirs_List.mono _ _ _
      | exact dirs_Walk.mono _ _ _ _
      | exact LeO.none _
      | refine LeO.ite ?_ ?_
      | refine LeO.bind ?_ (fun _ => ?_)
def cambiumlaw14_DirsFound.T11 : Bool × List (List Nat × List Nat) := (true, [([], []), ([], []), ([], []), ([1, 2], [1, 2]), ([], []), ([4], [4]), ([5], [5]), ([3, 6, 3], [3, 6]), ([0, 7, 7], [0, 7]), ([8], [8]), ([9], [9]), ([9], [9]), ([10, 8, 0, 1, 2, 3, 4, 5, 6, 7, 8, 9, 10], [10]), ([11, 12, 0, 1, 2, 3, 4, 5, 6, 7, 8, 9, 10, 11, 12], [11])])
def cambiumlaw14_DirsFound.B11 : List Nat := [0, 0, 0, 6, 0, 16, 48, 126, 255, 511, 1023, 1023, 2047, 8191]
theorem cambiumlaw14_DirsFound.tab11 : rtab .any (opsOf Try.f3 11) = cambiumlaw14_DirsFound.T11 := by kernel_rfl
theorem cambiumlaw14_DirsFound.bits11 : waitsOk cambiumlaw14_DirsFound.T11.2 cambiumlaw14_DirsFound.B11 = true := by kernel_rfl
def cambiumlaw14_DirsFound.T13 : Bool × List (List Nat × List Nat) := (true, [([], []), ([0], [0]), ([1], [1]), ([2], [2]), ([2], [2]), ([4, 2], [2, 4]), ([3, 5, 2], [2, 3, 5]), ([2, 6], [2, 6]), ([7, 2], [7]), ([8], [8]), ([9, 8], [8, 9]), ([8, 10], [8, 10]), ([11, 8], [11]), ([12], [12]), ([13, 12], [12, 13]), ([12], [12]), ([15, 12], [12, 15]), ([14, 16, 12], [12, 14, 16]), ([12, 17], [12, 17]), ([18, 12], [18]), ([19], [19]), ([20, 19], [19, 20]), ([21, 19, 19], [19, 21]), ([22], [22]), ([22], [22]), ([24, 22], [22, 24]), ([23, 25, 22], [22, 23, 25]), ([26, 22], [22, 26]), ([27, 22], [22, 27]), ([22], [22]), ([29, 22], [22, 29]), ([28, 30, 22], [22, 28, 30]), ([22, 31, 19], [19, 22, 31]), ([19, 32], [19, 32])])
def cambiumlaw14_DirsFound.B13 : List Nat := [0, 1, 3, 7, 7, 23, 63, 127, 255, 511, 1023, 2047, 4095, 8191, 16383, 8191, 40959, 131071, 262143, 524287, 1048575, 2097151, 4194303, 8388607, 8388607, 25165823, 67108863, 134217727, 268435455, 8388607, 545259519, 2147483647, 4294967295, 8589934591]
theorem cambiumlaw14_DirsFound.tab13 : rtab .any (opsOf Try.f3 13) = cambiumlaw14_DirsFound.T13 := by kernel_rfl
theorem cambiumlaw14_DirsFound.bits13 : waitsOk cambiumlaw14_DirsFound.T13.2 cambiumlaw14_DirsFound.B13 = true := by kernel_rfl
set_option maxHeartbeats 8000000 in
set_option maxRecDepth 100000 in
theorem cambiumlaw14_DirsFound.calls (k : Nat) (A0 : Option Addr) (c0 : Nat) (l0 : List (S61)) (A1 : Option Addr) (c1 : Nat) (l1 : List ByteArray) (a2 : ByteArray) (r : Bool) (w : World) (hr0 : Kd.C k61 w A0 l0.length l0) (hc0 : l0.length ≤ c0) (hr1 : Kd.C Kd.string w A1 l1.length l1) (hc1 : l1.length ≤ c1) (h : cambiumlaw14_DirsFound.f k l0 l1 a2 = some r) (hT_ : r = true := by rfl) :
    Calls Try.prog 3 #[.slice A0 l0.length c0, .slice A1 l1.length c1, .string a2] w fun e w' => e = .returned (.bool r) ∧ Below w.heap.size w w' := by
  have HT_ := Aside0.mk hT_
  clear hT_
  have hu34 := Try.underlying34
  have hu37 := Try.underlying37
  have HR0 := Aside0.mk hr0
  have HC0 := Aside0.mk hc0
  clear hr0 hc0
  have HR1 := Aside0.mk hr1
  have HC1 := Aside0.mk hc1
  clear hr1 hc1
  have HB := Aside0.mk (Below.refl w.heap.size w)
  have H : ((cambiumlaw14_lives.f k).bind fun t248 => (if t248 = true then ((dirs_Walk.f k l0 l1 true).bind fun bt249 => ((dirs_List.f k l0 bt249.1).bind fun bt251 => (if bt249.2 = 0 then (cambiumlaw14_DirsFound.j0 k l0 l1 a2 bt251.1 (bt251.2 != 0)) else (cambiumlaw14_DirsFound.j0 k l0 l1 a2 bt251.1 true)))) else (some false))) = some r := h
  clear h
  replace H := Option.bind_eq_some_iff.mp H
  obtain ⟨t248, A40, H⟩ := H
  replace H : (if t248 = true then ((dirs_Walk.f k l0 l1 true).bind fun bt249 => ((dirs_List.f k l0 bt249.1).bind fun bt251 => (if bt249.2 = 0 then (cambiumlaw14_DirsFound.j0 k l0 l1 a2 bt251.1 (bt251.2 != 0)) else (cambiumlaw14_DirsFound.j0 k l0 l1 a2 bt251.1 true)))) else (some false)) = some r := H
  have A4 := Aside0.mk A40
  clear A40
  by_cases c5 : t248 = true
  · subst c5
    have H1 : ((dirs_Walk.f k l0 l1 true).bind fun bt249 => ((dirs_List.f k l0 bt249.1).bind fun bt251 => (if bt249.2 = 0 then (cambiumlaw14_DirsFound.j0 k l0 l1 a2 bt251.1 (bt251.2 != 0)) else (cambiumlaw14_DirsFound.j0 k l0 l1 a2 bt251.1 true)))) = some r := by rw [if_pos rfl] at H; exact H
    clear H
    have H := H1
    clear H1
    replace H := Option.bind_eq_some_iff.mp H
    obtain ⟨⟨t249, t250⟩, A60, H⟩ := H
    replace H : ((dirs_List.f k l0 t249).bind fun bt251 => (if t250 = 0 then (cambiumlaw14_DirsFound.j0 k l0 l1 a2 bt251.1 (bt251.2 != 0)) else (cambiumlaw14_DirsFound.j0 k l0 l1 a2 bt251.1 true))) = some r := H
    have A6 := Aside0.mk A60
    clear A60
    replace H := Option.bind_eq_some_iff.mp H
    obtain ⟨⟨t251, t252⟩, A70, H⟩ := H
    replace H : (if t250 = 0 then (cambiumlaw14_DirsFound.j0 k l0 l1 a2 t251 (t252 != 0)) else (cambiumlaw14_DirsFound.j0 k l0 l1 a2 t251 true)) = some r := H
    have A7 := Aside0.mk A70
    clear A70
    have HC8 := Aside0.mk H
    clear H
    go_enter Try.func3, Try.ntmps3
    go_upto_region 5 with (first | ((with_reducible refine gate_callee (f := 7) rfl ?_); refine gl_ (some 20) Try.func7 #[] ?_; (with_reducible refine (cambiumlaw14_lives.calls k  true _ A4.out).mono ?_); rintro e w9 ⟨rfl, hb⟩; refine ⟨_, rfl, ?_⟩; have n0_ := Aside0.mk (below_step bel_ hb); clear HB; have HB := n0_; clear n0_; (try clear hb); (try clear hb2); (try clear hk); (try clear hi)) | ((with_reducible refine gate_callee (f := 8) rfl ?_); refine gl_ (some 25) Try.func8 #[.slice A0 l0.length c0, .slice A1 l1.length c1, .bool true] ?_; (with_reducible refine (dirs_Walk.calls k _ _ l0 _ _ l1 true t249 t250 _ ?side1 ?side2 ?side3 ?side4 A6.out).mono ?_); (case side1 => exact cb_ HR0); (case side2 => exact HC0.out); (case side3 => exact cb_ HR1); (case side4 => exact HC1.out); rintro e w10 ⟨rfl, hb⟩; refine ⟨_, rfl, ?_⟩; have n0_ := Aside0.mk (below_step bel_ hb); clear HB; have HB := n0_; clear n0_; (try clear hb); (try clear hb2); (try clear hk); (try clear hi)) | ((with_reducible refine gate_callee (f := 9) rfl ?_); refine gl_ (some 31) Try.func9 #[.slice A0 l0.length c0, .int .u32 t249] ?_; (with_reducible refine (dirs_List.calls k _ _ l0 t249 t251 t252 _ ?side1 ?side2 A7.out).mono ?_); (case side1 => exact cb_ HR0); (case side2 => exact HC0.out); rintro e w11 ⟨v253, rfl, ho0, hb⟩; refine ⟨_, rfl, ?_⟩; have n0_ := Aside0.mk (Kd.R_lower ho0 (below_size bel_)); have n1_ := Aside0.mk (below_step bel_ hb); clear HB; have HO254 := n0_; have HB := n1_; clear n0_ n1_; (try clear hb); (try clear hb2); (try clear hk); (try clear hi); (try clear ho0)))
    (try simp only [Act.put, List.setIfInBounds_toArray, List.set_cons_zero, List.set_cons_succ])
    go_cut [39] (fun v39 wc => ∃ (kq : Nat) (x39_7 : Bool), v39 = .bool x39_7 ∧ Aside0 (cambiumlaw14_DirsFound.j0 kq l0 l1 a2 t251 x39_7 = some r) ∧ Aside0 (kq ≤ k) ∧ Aside0 (Kd.R k34 34 wc w.heap.size (fun _ => True) v253 t251) ∧ Aside0 (Below w.heap.size w wc))
    case first =>
      have H := HC8.out
      clear HC8
      by_cases c12 : t250 = 0
      · rw [if_pos c12] at H
        have c12b0 : (t250 == 0) = true := beq_iff_eq.mpr c12
        have c12b1 : (t250 != 0) = false := bne_eq_false_iff_eq.mpr c12
        clear c12
        (first | rw [c12b0] | (simp only [i64_w, i32_w]; rw [c12b0]) | skip)
        have H' := Aside0.mk H
        clear H
        go_wp2
        go_meet
        case rel => exact ⟨_, ((t252 != 0)), (by first | rfl | (simp; done) | (simp [*]; done)), H', ⟨by first | omega | exact Nat.le_refl _⟩, ⟨ra_ HO254⟩, ⟨bel_⟩⟩
      rw [if_neg c12] at H
      have c12b0 : (t250 == 0) = false := beq_eq_false_iff_ne.mpr c12
      have c12b1 : (t250 != 0) = true := bne_iff_ne.mpr c12
      (first | rw [c12b0] | (simp only [i64_w, i32_w]; rw [c12b0]) | skip)
      have H' := Aside0.mk H
      clear H
      go_wp2
      go_meet
      case rel => exact ⟨_, (true), (by first | rfl | (simp; done) | (simp [*]; done)), H', ⟨by first | omega | exact Nat.le_refl _⟩, ⟨ra_ HO254⟩, ⟨bel_⟩⟩
    case rest =>
      clear HC8
      try clear c1
      try clear p2
      try clear c3
      try clear c5
      try clear c7
      try clear c8
      try clear c9
      try clear c12
      try clear c12b0
      try clear c12b1
      obtain ⟨kq, x39_7, rfl, HA, HJ7, HO_9, HB⟩ := hcut
      cases kq with
      | zero => exact absurd HA.out (by simp [cambiumlaw14_DirsFound.j0])
      | succ kj7 =>
        have H := HA.out
        clear HA
        simp only [cambiumlaw14_DirsFound.j0] at H
        by_cases c13 : x39_7 = true
        · subst c13
          have H1 : (some true) = some r := by rw [if_pos rfl] at H; exact H
          clear H
          have H := H1
          clear H1
          obtain rfl := Option.some.inj H
          go_wp2
          go_ret
          exact ⟨by first | rfl | (simp [errW_none, errW_some] <;> rfl) | (simp [*, errW_none, errW_some] <;> rfl), bel_⟩
        replace c13 := Bool.eq_false_iff.mpr c13
        subst c13
        have H1 : (cambiumlaw14_DirsFound.l0 kj7 l0 l1 a2 t251 false t251 (t251.length : Int) 0) = some r := by rw [if_neg (show ¬ (false = true) by decide)] at H; exact H
        clear H
        have H := H1
        clear H1
        have H' := Aside0.mk H
        clear H
        obtain ⟨Ao14, co14, eo14⟩ := Kd.R_slice HO_9.out
        subst eo14
        go_wp2
        go_loopg [11, 42] kj7 (fun kq v11 v42 w' => ∃ (x11_2 : Bool) (x42_2 : Int), v11 = .bool x11_2 ∧ v42 = .int .i64 x42_2 ∧ Aside0 (cambiumlaw14_DirsFound.l0 kq l0 l1 a2 t251 x11_2 t251 (t251.length : Int) x42_2 = some r) ∧ Aside0 (kq ≤ kj7) ∧ Aside0 (Kd.R k34 34 w' w.heap.size (fun _ => True) (.slice Ao14 t251.length co14) t251) ∧ Aside0 (Kd.R k34 34 w' w.heap.size (fun _ => True) (.slice Ao14 t251.length co14) t251) ∧ Aside0 (Below w.heap.size w w'))
        case atStart => exact ⟨(false), (0), (by first | rfl | (simp; done) | (simp [*]; done)), (by first | rfl | (simp; done) | (simp [*]; done)), H', ⟨Nat.le_refl _⟩, ⟨ra_ HO_9⟩, ⟨ra_ HO_9⟩, ⟨bel_⟩⟩
        case round =>
          clear H'
          try clear c1
          try clear p2
          try clear c3
          try clear c5
          try clear c7
          try clear c8
          try clear c9
          try clear c12
          try clear c12b0
          try clear c12b1
          try clear c13
          try clear p2
          obtain ⟨x11_2, x42_2, rfl, rfl, HA, HK2, HO_9, HO_40, HB⟩ := hrel
          cases gk with
          | zero => exact absurd HA.out (by simp [cambiumlaw14_DirsFound.l0])
          | succ k2 =>
            have H := HA.out
            clear HA
            simp only [cambiumlaw14_DirsFound.l0] at H
            by_cases c15 : x42_2 < (t251.length : Int)
            · rw [if_pos c15] at H
              have c15b0 : decide (x42_2 < (t251.length : Int)) = true := decide_eq_true c15
              clear c15
              by_cases c16 : 0 ≤ x42_2
              · rw [if_pos c16] at H
                have c16b0 : decide (0 ≤ x42_2) = true := decide_eq_true c16
                clear c16
                by_cases c17 : x42_2 < (t251.length : Int)
                · rw [if_pos c17] at H
                  have c17b0 : decide (x42_2 < (t251.length : Int)) = true := decide_eq_true c17
                  clear c17
                  obtain ⟨y271, hy271⟩ : ∃ y_ : List ByteArray, y_ = (([] : List ByteArray)) := ⟨_, rfl⟩
                  replace H : (if y271.length + l1.length < 8796093022208 then ((some (y271 ++ l1 : List ByteArray)).bind fun y274 => ((some (([(rd_T34 t251 x42_2).f0] : List ByteArray) : List ByteArray)).bind fun y277 => (if y274.length + y277.length < 8796093022208 then ((dirs_Walk.f k2 l0 (y274 ++ y277) false).bind fun bt283 => ((dirs_Get.f k2 l0 bt283.1).bind fun bt285 => (if bt283.2 = 0 then (if bt283.1 = ((rd_T34 t251 x42_2).f1) then (if bt285.2.2.2.2.2 = 0 then (if bt285.1 = ((rd_T34 t251 x42_2).f2) then (if x42_2 > 0 then (if 0 ≤ (wrap64 (x42_2 - 1)) then (if (wrap64 (x42_2 - 1)) < (t251.length : Int) then (if ((Op.bytesLess (((rd_T34 t251 (wrap64 (x42_2 - 1))).f0).toList) (((rd_T34 t251 x42_2).f0).toList)) = true) then (if x11_2 = true then (cambiumlaw14_DirsFound.l0 k2 l0 l1 a2 t251 true t251 (t251.length : Int) (wrap64 (x42_2 + 1))) else (cambiumlaw14_DirsFound.l0 k2 l0 l1 a2 t251 (((rd_T34 t251 x42_2).f0).toList == a2.toList) t251 (t251.length : Int) (wrap64 (x42_2 + 1)))) else (some false)) else (none)) else (none)) else (if x11_2 = true then (cambiumlaw14_DirsFound.l0 k2 l0 l1 a2 t251 true t251 (t251.length : Int) (wrap64 (x42_2 + 1))) else (cambiumlaw14_DirsFound.l0 k2 l0 l1 a2 t251 (((rd_T34 t251 x42_2).f0).toList == a2.toList) t251 (t251.length : Int) (wrap64 (x42_2 + 1))))) else (some false)) else (some false)) else (some false)) else (some false)))) else (none)))) else (none)) = some r := by first | (rw [hy271]; with_reducible exact H) | (have H2_ := (Option.bind_some _ _).symm.trans H; rw [hy271]; with_reducible exact H2_) | (have H2_ := (Option.bind_some _ _).symm.trans H; with_reducible exact H2_) | with_reducible exact H | (rw [hy271]; exact H) | exact H
                  have Ny271 := Aside0.mk hy271
                  clear hy271
                  by_cases c18 : y271.length + l1.length < 8796093022208
                  · rw [if_pos c18] at H
                    have LMc18 := Aside0.mk c18
                    clear c18
                    obtain ⟨y274, hy274⟩ : ∃ y_ : List ByteArray, y_ = (y271 ++ l1) := ⟨_, rfl⟩
                    replace H : ((some (([(rd_T34 t251 x42_2).f0] : List ByteArray) : List ByteArray)).bind fun y277 => (if y274.length + y277.length < 8796093022208 then ((dirs_Walk.f k2 l0 (y274 ++ y277) false).bind fun bt283 => ((dirs_Get.f k2 l0 bt283.1).bind fun bt285 => (if bt283.2 = 0 then (if bt283.1 = ((rd_T34 t251 x42_2).f1) then (if bt285.2.2.2.2.2 = 0 then (if bt285.1 = ((rd_T34 t251 x42_2).f2) then (if x42_2 > 0 then (if 0 ≤ (wrap64 (x42_2 - 1)) then (if (wrap64 (x42_2 - 1)) < (t251.length : Int) then (if ((Op.bytesLess (((rd_T34 t251 (wrap64 (x42_2 - 1))).f0).toList) (((rd_T34 t251 x42_2).f0).toList)) = true) then (if x11_2 = true then (cambiumlaw14_DirsFound.l0 k2 l0 l1 a2 t251 true t251 (t251.length : Int) (wrap64 (x42_2 + 1))) else (cambiumlaw14_DirsFound.l0 k2 l0 l1 a2 t251 (((rd_T34 t251 x42_2).f0).toList == a2.toList) t251 (t251.length : Int) (wrap64 (x42_2 + 1)))) else (some false)) else (none)) else (none)) else (if x11_2 = true then (cambiumlaw14_DirsFound.l0 k2 l0 l1 a2 t251 true t251 (t251.length : Int) (wrap64 (x42_2 + 1))) else (cambiumlaw14_DirsFound.l0 k2 l0 l1 a2 t251 (((rd_T34 t251 x42_2).f0).toList == a2.toList) t251 (t251.length : Int) (wrap64 (x42_2 + 1))))) else (some false)) else (some false)) else (some false)) else (some false)))) else (none))) = some r := by first | (rw [hy274]; with_reducible exact H) | (have H2_ := (Option.bind_some _ _).symm.trans H; rw [hy274]; with_reducible exact H2_) | (have H2_ := (Option.bind_some _ _).symm.trans H; with_reducible exact H2_) | with_reducible exact H | (rw [hy274]; exact H) | exact H
                    have Ny274 := Aside0.mk hy274
                    clear hy274
                    obtain ⟨y277, hy277⟩ : ∃ y_ : List ByteArray, y_ = (([(rd_T34 t251 x42_2).f0] : List ByteArray)) := ⟨_, rfl⟩
                    replace H : (if y274.length + y277.length < 8796093022208 then ((dirs_Walk.f k2 l0 (y274 ++ y277) false).bind fun bt283 => ((dirs_Get.f k2 l0 bt283.1).bind fun bt285 => (if bt283.2 = 0 then (if bt283.1 = ((rd_T34 t251 x42_2).f1) then (if bt285.2.2.2.2.2 = 0 then (if bt285.1 = ((rd_T34 t251 x42_2).f2) then (if x42_2 > 0 then (if 0 ≤ (wrap64 (x42_2 - 1)) then (if (wrap64 (x42_2 - 1)) < (t251.length : Int) then (if ((Op.bytesLess (((rd_T34 t251 (wrap64 (x42_2 - 1))).f0).toList) (((rd_T34 t251 x42_2).f0).toList)) = true) then (if x11_2 = true then (cambiumlaw14_DirsFound.l0 k2 l0 l1 a2 t251 true t251 (t251.length : Int) (wrap64 (x42_2 + 1))) else (cambiumlaw14_DirsFound.l0 k2 l0 l1 a2 t251 (((rd_T34 t251 x42_2).f0).toList == a2.toList) t251 (t251.length : Int) (wrap64 (x42_2 + 1)))) else (some false)) else (none)) else (none)) else (if x11_2 = true then (cambiumlaw14_DirsFound.l0 k2 l0 l1 a2 t251 true t251 (t251.length : Int) (wrap64 (x42_2 + 1))) else (cambiumlaw14_DirsFound.l0 k2 l0 l1 a2 t251 (((rd_T34 t251 x42_2).f0).toList == a2.toList) t251 (t251.length : Int) (wrap64 (x42_2 + 1))))) else (some false)) else (some false)) else (some false)) else (some false)))) else (none)) = some r := by first | (rw [hy277]; with_reducible exact H) | (have H2_ := (Option.bind_some _ _).symm.trans H; rw [hy277]; with_reducible exact H2_) | (have H2_ := (Option.bind_some _ _).symm.trans H; with_reducible exact H2_) | with_reducible exact H | (rw [hy277]; exact H) | exact H
                    have Ny277 := Aside0.mk hy277
                    clear hy277
                    by_cases c19 : y274.length + y277.length < 8796093022208
                    · rw [if_pos c19] at H
                      have LMc19 := Aside0.mk c19
                      clear c19
                      obtain ⟨y280, hy280⟩ : ∃ y_ : List ByteArray, y_ = (y274 ++ y277) := ⟨_, rfl⟩
                      replace H : ((dirs_Walk.f k2 l0 y280 false).bind fun bt283 => ((dirs_Get.f k2 l0 bt283.1).bind fun bt285 => (if bt283.2 = 0 then (if bt283.1 = ((rd_T34 t251 x42_2).f1) then (if bt285.2.2.2.2.2 = 0 then (if bt285.1 = ((rd_T34 t251 x42_2).f2) then (if x42_2 > 0 then (if 0 ≤ (wrap64 (x42_2 - 1)) then (if (wrap64 (x42_2 - 1)) < (t251.length : Int) then (if ((Op.bytesLess (((rd_T34 t251 (wrap64 (x42_2 - 1))).f0).toList) (((rd_T34 t251 x42_2).f0).toList)) = true) then (if x11_2 = true then (cambiumlaw14_DirsFound.l0 k2 l0 l1 a2 t251 true t251 (t251.length : Int) (wrap64 (x42_2 + 1))) else (cambiumlaw14_DirsFound.l0 k2 l0 l1 a2 t251 (((rd_T34 t251 x42_2).f0).toList == a2.toList) t251 (t251.length : Int) (wrap64 (x42_2 + 1)))) else (some false)) else (none)) else (none)) else (if x11_2 = true then (cambiumlaw14_DirsFound.l0 k2 l0 l1 a2 t251 true t251 (t251.length : Int) (wrap64 (x42_2 + 1))) else (cambiumlaw14_DirsFound.l0 k2 l0 l1 a2 t251 (((rd_T34 t251 x42_2).f0).toList == a2.toList) t251 (t251.length : Int) (wrap64 (x42_2 + 1))))) else (some false)) else (some false)) else (some false)) else (some false)))) = some r := by first | (rw [hy280]; with_reducible exact H) | (have H2_ := (Option.bind_some _ _).symm.trans H; rw [hy280]; with_reducible exact H2_) | (have H2_ := (Option.bind_some _ _).symm.trans H; with_reducible exact H2_) | with_reducible exact H | (rw [hy280]; exact H) | exact H
                      have Ny280 := Aside0.mk hy280
                      clear hy280
                      replace H := Option.bind_eq_some_iff.mp H
                      obtain ⟨⟨t283, t284⟩, A200, H⟩ := H
                      replace H : ((dirs_Get.f k2 l0 t283).bind fun bt285 => (if t284 = 0 then (if t283 = ((rd_T34 t251 x42_2).f1) then (if bt285.2.2.2.2.2 = 0 then (if bt285.1 = ((rd_T34 t251 x42_2).f2) then (if x42_2 > 0 then (if 0 ≤ (wrap64 (x42_2 - 1)) then (if (wrap64 (x42_2 - 1)) < (t251.length : Int) then (if ((Op.bytesLess (((rd_T34 t251 (wrap64 (x42_2 - 1))).f0).toList) (((rd_T34 t251 x42_2).f0).toList)) = true) then (if x11_2 = true then (cambiumlaw14_DirsFound.l0 k2 l0 l1 a2 t251 true t251 (t251.length : Int) (wrap64 (x42_2 + 1))) else (cambiumlaw14_DirsFound.l0 k2 l0 l1 a2 t251 (((rd_T34 t251 x42_2).f0).toList == a2.toList) t251 (t251.length : Int) (wrap64 (x42_2 + 1)))) else (some false)) else (none)) else (none)) else (if x11_2 = true then (cambiumlaw14_DirsFound.l0 k2 l0 l1 a2 t251 true t251 (t251.length : Int) (wrap64 (x42_2 + 1))) else (cambiumlaw14_DirsFound.l0 k2 l0 l1 a2 t251 (((rd_T34 t251 x42_2).f0).toList == a2.toList) t251 (t251.length : Int) (wrap64 (x42_2 + 1))))) else (some false)) else (some false)) else (some false)) else (some false))) = some r := H
                      have A20 := Aside0.mk A200
                      clear A200
                      replace H := Option.bind_eq_some_iff.mp H
                      obtain ⟨⟨t285, t286, t287, t288, t289, t290⟩, A210, H⟩ := H
                      replace H : (if t284 = 0 then (if t283 = ((rd_T34 t251 x42_2).f1) then (if t290 = 0 then (if t285 = ((rd_T34 t251 x42_2).f2) then (if x42_2 > 0 then (if 0 ≤ (wrap64 (x42_2 - 1)) then (if (wrap64 (x42_2 - 1)) < (t251.length : Int) then (if ((Op.bytesLess (((rd_T34 t251 (wrap64 (x42_2 - 1))).f0).toList) (((rd_T34 t251 x42_2).f0).toList)) = true) then (if x11_2 = true then (cambiumlaw14_DirsFound.l0 k2 l0 l1 a2 t251 true t251 (t251.length : Int) (wrap64 (x42_2 + 1))) else (cambiumlaw14_DirsFound.l0 k2 l0 l1 a2 t251 (((rd_T34 t251 x42_2).f0).toList == a2.toList) t251 (t251.length : Int) (wrap64 (x42_2 + 1)))) else (some false)) else (none)) else (none)) else (if x11_2 = true then (cambiumlaw14_DirsFound.l0 k2 l0 l1 a2 t251 true t251 (t251.length : Int) (wrap64 (x42_2 + 1))) else (cambiumlaw14_DirsFound.l0 k2 l0 l1 a2 t251 (((rd_T34 t251 x42_2).f0).toList == a2.toList) t251 (t251.length : Int) (wrap64 (x42_2 + 1))))) else (some false)) else (some false)) else (some false)) else (some false)) = some r := H
                      have A21 := Aside0.mk A210
                      clear A210
                      by_cases c22 : t284 = 0
                      · rw [if_pos c22] at H
                        have c22b0 : (t284 == 0) = true := beq_iff_eq.mpr c22
                        have c22b1 : (t284 != 0) = false := bne_eq_false_iff_eq.mpr c22
                        clear c22
                        by_cases c23 : t283 = ((rd_T34 t251 x42_2).f1)
                        · rw [if_pos c23] at H
                          have c23b0 : (t283 == ((rd_T34 t251 x42_2).f1)) = true := beq_iff_eq.mpr c23
                          have c23b1 : (t283 != ((rd_T34 t251 x42_2).f1)) = false := bne_eq_false_iff_eq.mpr c23
                          clear c23
                          by_cases c24 : t290 = 0
                          · rw [if_pos c24] at H
                            have c24b0 : (t290 == 0) = true := beq_iff_eq.mpr c24
                            have c24b1 : (t290 != 0) = false := bne_eq_false_iff_eq.mpr c24
                            clear c24
                            by_cases c25 : t285 = ((rd_T34 t251 x42_2).f2)
                            · rw [if_pos c25] at H
                              have c25b0 : (t285 == ((rd_T34 t251 x42_2).f2)) = true := beq_iff_eq.mpr c25
                              have c25b1 : (t285 != ((rd_T34 t251 x42_2).f2)) = false := bne_eq_false_iff_eq.mpr c25
                              clear c25
                              by_cases c26 : x42_2 > 0
                              · rw [if_pos c26] at H
                                have c26b0 : decide (0 < x42_2) = true := decide_eq_true c26
                                clear c26
                                obtain ⟨ji27, hji27⟩ : ∃ j_ : Int, (wrap64 (x42_2 - 1)) = j_ := ⟨_, rfl⟩
                                replace H : (if 0 ≤ (ji27) then (if (ji27) < (t251.length : Int) then (if ((Op.bytesLess (((rd_T34 t251 (ji27)).f0).toList) (((rd_T34 t251 x42_2).f0).toList)) = true) then (if x11_2 = true then (cambiumlaw14_DirsFound.l0 k2 l0 l1 a2 t251 true t251 (t251.length : Int) (wrap64 (x42_2 + 1))) else (cambiumlaw14_DirsFound.l0 k2 l0 l1 a2 t251 (((rd_T34 t251 x42_2).f0).toList == a2.toList) t251 (t251.length : Int) (wrap64 (x42_2 + 1)))) else (some false)) else (none)) else (none)) = some r := by first | (rw [hji27] at H; exact H) | (simp only [hji27] at H ⊢; exact H)
                                (try rw [hji27] at A20)
                                (try rw [hji27] at A21)
                                have hji27w : (IntKind.i64.wrap (x42_2 - 1)) = ji27 := (i64_w _).trans hji27
                                by_cases c28 : 0 ≤ (ji27)
                                · rw [if_pos c28] at H
                                  have c28b0 : decide (0 ≤ (ji27)) = true := decide_eq_true c28
                                  clear c28
                                  by_cases c29 : (ji27) < (t251.length : Int)
                                  · rw [if_pos c29] at H
                                    have c29b0 : decide ((ji27) < (t251.length : Int)) = true := decide_eq_true c29
                                    clear c29
                                    by_cases c30 : ((Op.bytesLess (((rd_T34 t251 (ji27)).f0).toList) (((rd_T34 t251 x42_2).f0).toList)) = true)
                                    · rw [if_pos c30] at H
                                      have c30b0 : (Op.bytesLess (((rd_T34 t251 (ji27)).f0).toList) (((rd_T34 t251 x42_2).f0).toList)) = true := c30
                                      clear c30
                                      by_cases c31 : x11_2 = true
                                      · subst c31
                                        have H1 : (cambiumlaw14_DirsFound.l0 k2 l0 l1 a2 t251 true t251 (t251.length : Int) (wrap64 (x42_2 + 1))) = some r := by rw [if_pos rfl] at H; exact H
                                        clear H
                                        have H := H1
                                        clear H1
                                        have H' := Aside0.mk H
                                        clear H
                                        have p269 : 0 ≤ (x42_2 : Int) := of_decide_eq_true (by first | (with_reducible assumption) | assumption)
                                        have q269 : x42_2 < (t251.length : Int) := of_decide_eq_true (by first | (with_reducible assumption) | assumption)
                                        obtain ⟨ad269, e269, hx269_0, hx269_1, hx269_2⟩ := at_T34 (Kd.R_reads' HO_40.out).2.2 x42_2 p269 q269
                                        cases e269
                                        replace p269 := eq_true p269
                                        replace q269 := eq_true q269
                                        try go_wp2_with (first | ((with_reducible refine gate_dst (N := 13) rfl ?_); refine bx_ (N := 13) (cs := #[.string (⟨#[]⟩ : ByteArray), .int .u32 0, .int .u8 0]) (t := 34) ?_; intro gb270 hg w32 hbox hb; have BK270 := Aside0.mk (hbox); have GW270 := ge_ hg; have GE270 := ge_ hg; replace HO_9 := Aside0.mk (Kd.R_below (Kd.R_elderB (ra_ HO_9) gb270 (Nat.le_of_eq hg.symm)) hb); replace HO_40 := Aside0.mk (Kd.R_below (Kd.R_elderB (ra_ HO_40) gb270 (Nat.le_of_eq hg.symm)) hb); replace HB := hb_ hb; clear hb hbox hg; obtain ⟨hcz33_0, hcz33_1, hcz33_2⟩ := cl3_ BK270; obtain ⟨hfz33_0, hfz33_1, hfz33_2⟩ := fz3_ BK270))
                                        have n0_ : Aside0 (Kd.R k34 34 (((w32.setCell ⟨gb270, 0, none⟩ (.string ((rd_T34 t251 x42_2).f0))).setCell ⟨gb270, 1, none⟩ (.int .u32 ((rd_T34 t251 x42_2).f1))).setCell ⟨gb270, 2, none⟩ (.int .u8 ((rd_T34 t251 x42_2).f2))) w.heap.size (fun k_ => k_ ≠ gb270) (.slice (some ad269) t251.length co14) t251) := ⟨by (with_reducible repeat (first | apply Kd.R_alloc | apply Kd.R_drewN | apply Kd.R_drew)); exact Kd.R_mono (Kd.R_far (p := ⟨gb270, 2, none⟩) (Kd.R_far (p := ⟨gb270, 1, none⟩) (Kd.R_far (p := ⟨gb270, 0, none⟩) (Kd.R_mono HO_9.out (fun k_ hk => (⟨hk, hk.2⟩ : _ ∧ k_ ≠ gb270))) (fun _ hk => hk.2) (.string ((rd_T34 t251 x42_2).f0))) (fun _ hk => hk.2) (.int .u32 ((rd_T34 t251 x42_2).f1))) (fun _ hk => hk.2) (.int .u8 ((rd_T34 t251 x42_2).f2))) (fun _ hk => hk.1.2)⟩
                                        have n1_ : Aside0 (Kd.R k34 34 (((w32.setCell ⟨gb270, 0, none⟩ (.string ((rd_T34 t251 x42_2).f0))).setCell ⟨gb270, 1, none⟩ (.int .u32 ((rd_T34 t251 x42_2).f1))).setCell ⟨gb270, 2, none⟩ (.int .u8 ((rd_T34 t251 x42_2).f2))) w.heap.size (fun k_ => k_ ≠ gb270) (.slice (some ad269) t251.length co14) t251) := ⟨by (with_reducible repeat (first | apply Kd.R_alloc | apply Kd.R_drewN | apply Kd.R_drew)); exact Kd.R_mono (Kd.R_far (p := ⟨gb270, 2, none⟩) (Kd.R_far (p := ⟨gb270, 1, none⟩) (Kd.R_far (p := ⟨gb270, 0, none⟩) (Kd.R_mono HO_40.out (fun k_ hk => (⟨hk, hk.2⟩ : _ ∧ k_ ≠ gb270))) (fun _ hk => hk.2) (.string ((rd_T34 t251 x42_2).f0))) (fun _ hk => hk.2) (.int .u32 ((rd_T34 t251 x42_2).f1))) (fun _ hk => hk.2) (.int .u8 ((rd_T34 t251 x42_2).f2))) (fun _ hk => hk.1.2)⟩
                                        have n2_ : Aside0 ((((w32.setCell ⟨gb270, 0, none⟩ (.string ((rd_T34 t251 x42_2).f0))).setCell ⟨gb270, 1, none⟩ (.int .u32 ((rd_T34 t251 x42_2).f1))).setCell ⟨gb270, 2, none⟩ (.int .u8 ((rd_T34 t251 x42_2).f2))).heap[gb270]? = some (.cells #[.string ((rd_T34 t251 x42_2).f0), .int .u32 ((rd_T34 t251 x42_2).f1), .int .u8 ((rd_T34 t251 x42_2).f2)] 34 (0, 0))) := ⟨bs_⟩
                                        have n3_ : Aside0 (Below w.heap.size w (((w32.setCell ⟨gb270, 0, none⟩ (.string ((rd_T34 t251 x42_2).f0))).setCell ⟨gb270, 1, none⟩ (.int .u32 ((rd_T34 t251 x42_2).f1))).setCell ⟨gb270, 2, none⟩ (.int .u8 ((rd_T34 t251 x42_2).f2)))) := ⟨bel_⟩
                                        (try clear HO_9)
                                        (try clear HO_40)
                                        (try clear BK270)
                                        (try clear HB)
                                        generalize (((w32.setCell ⟨gb270, 0, none⟩ (.string ((rd_T34 t251 x42_2).f0))).setCell ⟨gb270, 1, none⟩ (.int .u32 ((rd_T34 t251 x42_2).f1))).setCell ⟨gb270, 2, none⟩ (.int .u8 ((rd_T34 t251 x42_2).f2))) = w34 at n0_ n1_ n2_ n3_ ⊢
                                        have HO_9 := n0_
                                        have HO_40 := n1_
                                        have BK270 := n2_
                                        have HB := n3_
                                        clear n0_ n1_ n2_ n3_
                                        replace HO_9 := Aside0.mk (Kd.R_drew HO_9.out)
                                        replace HO_40 := Aside0.mk (Kd.R_drew HO_40.out)
                                        replace BK270 := Aside0.mk (blk_drew BK270.out)
                                        replace HB := Aside0.mk (below_drew1 HB.out)
                                        refine start_ (n := 14) (S := fun w' => w'.cell? ⟨gb270, 0, none⟩ = some (.string ((rd_T34 t251 x42_2).f0)) ∧ w'.cell? ⟨gb270, 1, none⟩ = some (.int .u32 ((rd_T34 t251 x42_2).f1)) ∧ w'.cell? ⟨gb270, 2, none⟩ = some (.int .u8 ((rd_T34 t251 x42_2).f2))) (ds := []) #[false, false, false, false, false, false, false, false, false, false, false, false, false, false] (by kernel_rfl) rfl rfl hc_ (fun hHeld => ?_); refine with_tabW cambiumlaw14_DirsFound.tab11 cambiumlaw14_DirsFound.bits11 (fun HT_ HW_ => ?_)
                                        generalize w34.drew = w35 at HO_9 HO_40 BK270 HB hHeld ⊢
                                        refine pu_ 0 48 ?_
                                        refine pu_ 2 50 ?_
                                        refine pu_ 4 52 ?_
                                        refine tk3_ 5 53 ?_
                                        refine join_ (σ := Value × Value × Value) 7 #[true, true, true, true, true, true, true, false, false, false, false, false, false, false] (fun s_ => [(49, s_.1), (51, s_.2.1), (54, s_.2.2)]) (fun s_ w' => (w'.cell? ⟨gb270, 0, none⟩ = some (.string ((rd_T34 t251 x42_2).f0)) ∧ w'.cell? ⟨gb270, 1, none⟩ = some (.int .u32 ((rd_T34 t251 x42_2).f1)) ∧ w'.cell? ⟨gb270, 2, none⟩ = some (.int .u8 ((rd_T34 t251 x42_2).f2))) ∧ (Kd.R Kd.string 9 w' w.heap.size (fun k_ => some k_ ≠ (s_.2.2 : Value).ownBlock) s_.2.1 y274) ∧ (Kd.R Kd.string 9 w' w.heap.size (fun k_ => some k_ ≠ (s_.2.1 : Value).ownBlock) s_.2.2 y277) ∧ (Kd.R k34 34 w' w.heap.size (fun k_ => k_ ≠ gb270) (.slice (some ad269) t251.length co14) t251) ∧ (Kd.R k34 34 w' w.heap.size (fun k_ => k_ ≠ gb270) (.slice (some ad269) t251.length co14) t251) ∧ (w'.heap[gb270]? = some (.cells #[.string ((rd_T34 t251 x42_2).f0), .int .u32 ((rd_T34 t251 x42_2).f1), .int .u8 ((rd_T34 t251 x42_2).f2)] 34 (0, 0))) ∧ (Below w.heap.size w w')) ?_ ?_
                                        rotate_left
                                        · intro hCont
                                          refine two_ (i := 1) (j := 6) (Ni := some 49) (Nj := some 54) #[true, true, true, false, true, true, false, false, false, false, false, false, false, false] #[true, false, true, false, true, true, true, false, false, false, false, false, false, false] rfl rfl rfl rfl (two_of HT_.out (by kernel_rfl)) (by decide) (by decide) (fun K hK => ?_) (fun K hK => ?_)
                                          · skip
                                            refine Kd.R_lit_step Kd.string _ 9 ?hg (N := 49) ?hd (xs := ([] : List ByteArray)) (inner := []) (ok := fun _ => True) (okp := fun _ => True) ?hr ?hp (fun _ hk => hk) trivial (Below.refl _ _) (Nat.le_refl _) (by simp) ?_; (case hd => rfl); (case hg => rfl); (case hr => first | (go_simp; done) | (go_simp; rfl)); (case hp => exact (Reps.none _ _))
                                            intro v272 w36 ho37 hb hg_ hnew_
                                            clear hg_ hnew_
                                            (first | rw [← Ny271.out] at ho37 | (simp only [Int.reduceToNat] at ho37; rw [← Ny271.out] at ho37))
                                            have HO273 := rl_ ho37
                                            replace HO_9 := rb_ HO_9 hb
                                            replace HO_40 := rb_ HO_40 hb
                                            replace BK270 := kb_ BK270 hb
                                            replace HB := hb_ hb
                                            clear hb ho37
                                            refine hK.out _ _ hc_ (fun hHeld => ?_)
                                            clear hK K
                                            refine nm_ 49 ?_
                                            refine two_ (i := 3) (j := 6) (Ni := some 51) (Nj := some 54) #[true, true, true, true, true, true, false, false, false, false, false, false, false, false] #[true, true, true, false, true, true, true, false, false, false, false, false, false, false] rfl rfl rfl rfl (two_of HT_.out (by kernel_rfl)) (by decide) (by decide) (fun K hK => ?_) (fun K hK => ?_)
                                            · skip
                                              refine Kd.R_append_rows_step Kd.string (w0 := w) w.heap.size (by rfl) (.tmp 49) (.tmp 50) 23 9 (.string ⟨#[]⟩) 16 rfl Try.underlying23 info9 rfl (by decide) (by omega) v272 y271 l1 _ _ _ (fun _ => True) (fun _ => False) rfl rfl ?aO ?aR (fun _ _ h => h) (fun _ h => h.elim) ?aF ?aB ?aS ?aL ?_
                                              (case aR => repeat (first | exact (Kd.C_below HR1.out HB.out) | (with_reducible refine Kd.C_alloc ?_ _) | (with_reducible refine Kd.C_drewN ?_ _) | (with_reducible refine Kd.C_drew ?_)))
                                              (case aB => exact bel_)
                                              (case aF => exact (fun _ _ => trivial))
                                              (case aO => exact (ra_ HO273))
                                              (case aS => exact (below_size bel_))
                                              (case aL => have := LMc18.out; omega)
                                              intro v275 w38 ho hb hg hat
                                              rw [← Ny274.out] at ho
                                              have HO276 := Aside0.mk (ho)
                                              replace HO_9 := Aside0.mk (Kd.R_over' (ra_ HO_9) (Kd.R_typed (ra_ HO273)) (by decide) hg)
                                              replace HO_40 := Aside0.mk (Kd.R_over' (ra_ HO_40) (Kd.R_typed (ra_ HO273)) (by decide) hg)
                                              replace BK270 := Aside0.mk (blk_grown (bk_ BK270) hg (Kd.R_ne HO273.out BK270.out (by decide)))
                                              replace HB := Aside0.mk (hb)
                                              clear HO273
                                              clear ho hb hg hat
                                              refine hK.out _ _ hc_ (fun hHeld => ?_)
                                              clear hK K
                                              refine nm_ 51 ?_
                                              refine on_ 6 54 (fun K hK => ?_)
                                              refine Kd.R_lit_step Kd.string _ 9 ?hg (N := 54) ?hd (xs := ([(rd_T34 t251 x42_2).f0] : List ByteArray)) (inner := [.string ((rd_T34 t251 x42_2).f0)]) (ok := fun _ => True) (okp := fun _ => True) ?hr ?hp (fun _ hk => hk) trivial (Below.refl _ _) (Nat.le_refl _) (by simp) ?_; (case hd => rfl); (case hg => rfl); (case hr => first | (go_simp; done) | (go_simp; rfl)); (case hp => exact (Reps.one (show Kd.M Kd.string _ _ _ ((rd_T34 t251 x42_2).f0) [.string ((rd_T34 t251 x42_2).f0)] from rfl) (Reps.none _ _)))
                                              intro v278 w39 ho40 hb hg_ hnew_
                                              clear hg_ hnew_
                                              (first | rw [← Ny277.out] at ho40 | (simp only [Int.reduceToNat] at ho40; rw [← Ny277.out] at ho40))
                                              have HO279 := Aside0.mk (Kd.R_lower (Kd.R_new' ho40 (Kd.R_lt (ra_ HO276))) (below_size bel_))
                                              replace HO_9 := rb_ HO_9 hb
                                              replace HO_40 := rb_ HO_40 hb
                                              replace HO276 := Aside0.mk (Kd.R_elder' (ra_ HO276) (Kd.R_base ho40) hb)
                                              replace BK270 := kb_ BK270 hb
                                              replace HB := hb_ hb
                                              clear hb ho40
                                              refine hK.out _ _ hc_ (fun hHeld => ?_)
                                              clear hK K
                                              refine nm_ 54 ?_
                                              exact norm_ (by simp only [putAll, Act.put, List.setIfInBounds_toArray, List.set_cons_zero, List.set_cons_succ]) (hCont (v272, v275, v278) _ ⟨hHeld, (by (with_reducible repeat (first | apply Kd.R_alloc | apply Kd.R_drewN | apply Kd.R_drew)); exact Kd.R_mono HO276.out (fun _ hk => hk.2)), (by (with_reducible repeat (first | apply Kd.R_alloc | apply Kd.R_drewN | apply Kd.R_drew)); exact Kd.R_mono HO279.out (fun _ hk => hk.2)), (ra_ HO_40), (ra_ HO_9), (bk_ BK270), bel_⟩)
                                            skip
                                            refine Kd.R_lit_step Kd.string _ 9 ?hg (N := 54) ?hd (xs := ([(rd_T34 t251 x42_2).f0] : List ByteArray)) (inner := [.string ((rd_T34 t251 x42_2).f0)]) (ok := fun _ => True) (okp := fun _ => True) ?hr ?hp (fun _ hk => hk) trivial (Below.refl _ _) (Nat.le_refl _) (by simp) ?_; (case hd => rfl); (case hg => rfl); (case hr => first | (go_simp; done) | (go_simp; rfl)); (case hp => exact (Reps.one (show Kd.M Kd.string _ _ _ ((rd_T34 t251 x42_2).f0) [.string ((rd_T34 t251 x42_2).f0)] from rfl) (Reps.none _ _)))
                                            intro v278 w38 ho39 hb hg_ hnew_
                                            clear hg_ hnew_
                                            (first | rw [← Ny277.out] at ho39 | (simp only [Int.reduceToNat] at ho39; rw [← Ny277.out] at ho39))
                                            have HO279 := Aside0.mk (Kd.R_lower (Kd.R_new' ho39 (Kd.R_lt (ra_ HO273))) (below_size bel_))
                                            replace HO_9 := rb_ HO_9 hb
                                            replace HO_40 := rb_ HO_40 hb
                                            replace HO273 := Aside0.mk (Kd.R_elder' (ra_ HO273) (Kd.R_base ho39) hb)
                                            replace BK270 := kb_ BK270 hb
                                            replace HB := hb_ hb
                                            clear hb ho39
                                            refine hK.out _ _ hc_ (fun hHeld => ?_)
                                            clear hK K
                                            refine nm_ 54 ?_
                                            refine on_ 3 51 (fun K hK => ?_)
                                            refine Kd.R_append_rows_step Kd.string (w0 := w) w.heap.size (by rfl) (.tmp 49) (.tmp 50) 23 9 (.string ⟨#[]⟩) 16 rfl Try.underlying23 info9 rfl (by decide) (by omega) v272 y271 l1 _ _ _ (fun k_ => some k_ ≠ (v278 : Value).ownBlock) (fun _ => False) rfl rfl ?aO ?aR (fun _ _ h => h) (fun _ h => h.elim) ?aF ?aB ?aS ?aL ?_
                                            (case aR => repeat (first | exact (Kd.C_below HR1.out HB.out) | (with_reducible refine Kd.C_alloc ?_ _) | (with_reducible refine Kd.C_drewN ?_ _) | (with_reducible refine Kd.C_drew ?_)))
                                            (case aB => exact bel_)
                                            (case aF => exact (fun k_ hk => Kd.fresh' (Kd.R_lt (ra_ HO279)) k_ hk))
                                            (case aO => exact (by (with_reducible repeat (first | apply Kd.R_alloc | apply Kd.R_drewN | apply Kd.R_drew)); exact Kd.R_mono HO273.out (fun _ hk => hk.2)))
                                            (case aS => exact (below_size bel_))
                                            (case aL => have := LMc18.out; omega)
                                            intro v275 w40 ho hb hg hat
                                            rw [← Ny274.out] at ho
                                            have HO276 := Aside0.mk (ho)
                                            replace HO_9 := Aside0.mk (Kd.R_over' (ra_ HO_9) (Kd.R_typed (ra_ HO273)) (by decide) hg)
                                            replace HO_40 := Aside0.mk (Kd.R_over' (ra_ HO_40) (Kd.R_typed (ra_ HO273)) (by decide) hg)
                                            replace BK270 := Aside0.mk (blk_grown (bk_ BK270) hg (Kd.R_ne HO273.out BK270.out (by decide)))
                                            replace HO279 := Aside0.mk (Kd.R_after (ok := (fun _ => True)) (ra_ HO279) hg hat)
                                            replace HB := Aside0.mk (hb)
                                            clear HO273
                                            clear ho hb hg hat
                                            refine hK.out _ _ hc_ (fun hHeld => ?_)
                                            clear hK K
                                            refine nm_ 51 ?_
                                            exact norm_ (by simp only [putAll, Act.put, List.setIfInBounds_toArray, List.set_cons_zero, List.set_cons_succ]) (hCont (v272, v275, v278) _ ⟨hHeld, (ra_ HO276), (by (with_reducible repeat (first | apply Kd.R_alloc | apply Kd.R_drewN | apply Kd.R_drew)); exact Kd.R_mono HO279.out (fun _ hk => hk.2)), (ra_ HO_40), (ra_ HO_9), (bk_ BK270), bel_⟩)
                                          skip
                                          refine Kd.R_lit_step Kd.string _ 9 ?hg (N := 54) ?hd (xs := ([(rd_T34 t251 x42_2).f0] : List ByteArray)) (inner := [.string ((rd_T34 t251 x42_2).f0)]) (ok := fun _ => True) (okp := fun _ => True) ?hr ?hp (fun _ hk => hk) trivial (Below.refl _ _) (Nat.le_refl _) (by simp) ?_; (case hd => rfl); (case hg => rfl); (case hr => first | (go_simp; done) | (go_simp; rfl)); (case hp => exact (Reps.one (show Kd.M Kd.string _ _ _ ((rd_T34 t251 x42_2).f0) [.string ((rd_T34 t251 x42_2).f0)] from rfl) (Reps.none _ _)))
                                          intro v278 w36 ho37 hb hg_ hnew_
                                          clear hg_ hnew_
                                          (first | rw [← Ny277.out] at ho37 | (simp only [Int.reduceToNat] at ho37; rw [← Ny277.out] at ho37))
                                          have HO279 := rl_ ho37
                                          replace HO_9 := rb_ HO_9 hb
                                          replace HO_40 := rb_ HO_40 hb
                                          replace BK270 := kb_ BK270 hb
                                          replace HB := hb_ hb
                                          clear hb ho37
                                          refine hK.out _ _ hc_ (fun hHeld => ?_)
                                          clear hK K
                                          refine nm_ 54 ?_
                                          refine on_ 1 49 (fun K hK => ?_)
                                          refine Kd.R_lit_step Kd.string _ 9 ?hg (N := 49) ?hd (xs := ([] : List ByteArray)) (inner := []) (ok := fun _ => True) (okp := fun _ => True) ?hr ?hp (fun _ hk => hk) trivial (Below.refl _ _) (Nat.le_refl _) (by simp) ?_; (case hd => rfl); (case hg => rfl); (case hr => first | (go_simp; done) | (go_simp; rfl)); (case hp => exact (Reps.none _ _))
                                          intro v272 w38 ho39 hb hg_ hnew_
                                          clear hg_ hnew_
                                          (first | rw [← Ny271.out] at ho39 | (simp only [Int.reduceToNat] at ho39; rw [← Ny271.out] at ho39))
                                          have HO273 := Aside0.mk (Kd.R_lower (Kd.R_new' ho39 (Kd.R_lt (ra_ HO279))) (below_size bel_))
                                          replace HO_9 := rb_ HO_9 hb
                                          replace HO_40 := rb_ HO_40 hb
                                          replace HO279 := Aside0.mk (Kd.R_elder' (ra_ HO279) (Kd.R_base ho39) hb)
                                          replace BK270 := kb_ BK270 hb
                                          replace HB := hb_ hb
                                          clear hb ho39
                                          refine hK.out _ _ hc_ (fun hHeld => ?_)
                                          clear hK K
                                          refine nm_ 49 ?_
                                          refine on_ 3 51 (fun K hK => ?_)
                                          refine Kd.R_append_rows_step Kd.string (w0 := w) w.heap.size (by rfl) (.tmp 49) (.tmp 50) 23 9 (.string ⟨#[]⟩) 16 rfl Try.underlying23 info9 rfl (by decide) (by omega) v272 y271 l1 _ _ _ (fun k_ => some k_ ≠ (v278 : Value).ownBlock) (fun _ => False) rfl rfl ?aO ?aR (fun _ _ h => h) (fun _ h => h.elim) ?aF ?aB ?aS ?aL ?_
                                          (case aR => repeat (first | exact (Kd.C_below HR1.out HB.out) | (with_reducible refine Kd.C_alloc ?_ _) | (with_reducible refine Kd.C_drewN ?_ _) | (with_reducible refine Kd.C_drew ?_)))
                                          (case aB => exact bel_)
                                          (case aF => exact (fun k_ hk => Kd.fresh' (Kd.R_lt (ra_ HO279)) k_ hk))
                                          (case aO => exact (by (with_reducible repeat (first | apply Kd.R_alloc | apply Kd.R_drewN | apply Kd.R_drew)); exact Kd.R_mono HO273.out (fun _ hk => hk.2)))
                                          (case aS => exact (below_size bel_))
                                          (case aL => have := LMc18.out; omega)
                                          intro v275 w40 ho hb hg hat
                                          rw [← Ny274.out] at ho
                                          have HO276 := Aside0.mk (ho)
                                          replace HO_9 := Aside0.mk (Kd.R_over' (ra_ HO_9) (Kd.R_typed (ra_ HO273)) (by decide) hg)
                                          replace HO_40 := Aside0.mk (Kd.R_over' (ra_ HO_40) (Kd.R_typed (ra_ HO273)) (by decide) hg)
                                          replace BK270 := Aside0.mk (blk_grown (bk_ BK270) hg (Kd.R_ne HO273.out BK270.out (by decide)))
                                          replace HO279 := Aside0.mk (Kd.R_after (ok := (fun _ => True)) (ra_ HO279) hg hat)
                                          replace HB := Aside0.mk (hb)
                                          clear HO273
                                          clear ho hb hg hat
                                          refine hK.out _ _ hc_ (fun hHeld => ?_)
                                          clear hK K
                                          refine nm_ 51 ?_
                                          exact norm_ (by simp only [putAll, Act.put, List.setIfInBounds_toArray, List.set_cons_zero, List.set_cons_succ]) (hCont (v272, v275, v278) _ ⟨hHeld, (ra_ HO276), (by (with_reducible repeat (first | apply Kd.R_alloc | apply Kd.R_drewN | apply Kd.R_drew)); exact Kd.R_mono HO279.out (fun _ hk => hk.2)), (ra_ HO_40), (ra_ HO_9), (bk_ BK270), bel_⟩)
                                        rintro ⟨v272, v275, v278⟩ w41 ⟨hS_, h0_, h1_, h2_, h3_, h4_, h5_⟩
                                        have n0_ : Aside0 (Kd.R Kd.string 9 w41 w.heap.size (fun k_ => some k_ ≠ (v278 : Value).ownBlock) v275 y274) := ⟨h0_⟩
                                        have n1_ : Aside0 (Kd.R Kd.string 9 w41 w.heap.size (fun k_ => some k_ ≠ (v275 : Value).ownBlock) v278 y277) := ⟨h1_⟩
                                        have n2_ : Aside0 (Kd.R k34 34 w41 w.heap.size (fun k_ => k_ ≠ gb270) (.slice (some ad269) t251.length co14) t251) := ⟨h2_⟩
                                        have n3_ : Aside0 (Kd.R k34 34 w41 w.heap.size (fun k_ => k_ ≠ gb270) (.slice (some ad269) t251.length co14) t251) := ⟨h3_⟩
                                        have n4_ : Aside0 (w41.heap[gb270]? = some (.cells #[.string ((rd_T34 t251 x42_2).f0), .int .u32 ((rd_T34 t251 x42_2).f1), .int .u8 ((rd_T34 t251 x42_2).f2)] 34 (0, 0))) := ⟨h4_⟩
                                        have n5_ : Aside0 (Below w.heap.size w w41) := ⟨h5_⟩
                                        clear HO_9
                                        clear HO_40
                                        clear BK270
                                        clear HB
                                        clear h0_ h1_ h2_ h3_ h4_ h5_
                                        have HO276 := n0_
                                        have HO279 := n1_
                                        have HO_40 := n2_
                                        have HO_9 := n3_
                                        have BK270 := n4_
                                        have HB := n5_
                                        clear n0_ n1_ n2_ n3_ n4_ n5_
                                        have hHeld : w41.cell? ⟨gb270, 0, none⟩ = some (.string ((rd_T34 t251 x42_2).f0)) ∧ w41.cell? ⟨gb270, 1, none⟩ = some (.int .u32 ((rd_T34 t251 x42_2).f1)) ∧ w41.cell? ⟨gb270, 2, none⟩ = some (.int .u8 ((rd_T34 t251 x42_2).f2)) := hS_
                                        obtain ⟨Ao43, co43, eo43⟩ := Kd.R_slice HO279.out
                                        (first | subst eo43 | (injection eo43 with f1_ f2_ f3_; have f4_ := f1_.symm; have f5_ := f3_.symm; clear f1_ f2_ f3_; subst f4_; subst f5_))
                                        refine norm_ (a' := ?_) ?_ ?_
                                        rotate_left
                                        · simp only [putAll, Act.put, List.setIfInBounds_toArray, List.set_cons_zero, List.set_cons_succ]
                                          rfl
                                        refine on_ 7 55 (fun K hK => ?_)
                                        refine Kd.R_append_rows_step Kd.string (w0 := w) w.heap.size (by rfl) (.tmp 51) (.tmp 54) 23 9 (.string ⟨#[]⟩) 16 rfl Try.underlying23 info9 rfl (by decide) (by omega) v275 y274 y277 _ _ _ (fun k_ => some k_ ≠ (.slice Ao43 y277.length co43 : Value).ownBlock) (fun _ => False) rfl rfl ?aO ?aR (fun _ _ h => h) (fun _ h => h.elim) ?aF ?aB ?aS ?aL ?_
                                        (case aR => exact cr_ HO279)
                                        (case aB => exact bel_)
                                        (case aF => exact (fun k_ hk => Kd.fresh' (Kd.R_lt (ra_ HO279)) k_ hk))
                                        (case aO => exact (ra_ HO276))
                                        (case aS => exact (below_size bel_))
                                        (case aL => have := LMc19.out; omega)
                                        intro v281 w42 ho hb hg hat
                                        rw [← Ny280.out] at ho
                                        have HO282 := Aside0.mk (ho)
                                        replace HO_9 := Aside0.mk (Kd.R_over' (ra_ HO_9) (Kd.R_typed (ra_ HO276)) (by decide) hg)
                                        replace HO_40 := Aside0.mk (Kd.R_over' (ra_ HO_40) (Kd.R_typed (ra_ HO276)) (by decide) hg)
                                        replace BK270 := Aside0.mk (blk_grown (bk_ BK270) hg (Kd.R_ne HO276.out BK270.out (by decide)))
                                        replace HO279 := Aside0.mk (Kd.R_after (ok := (fun _ => True)) (by (with_reducible repeat (first | apply Kd.R_alloc | apply Kd.R_drewN | apply Kd.R_drew)); exact Kd.R_mono HO279.out (fun _ hk => ⟨trivial, hk⟩)) hg hat)
                                        replace HB := Aside0.mk (hb)
                                        clear HO276
                                        clear ho hb hg hat
                                        obtain ⟨Ao44, co44, eo44⟩ := Kd.R_slice HO282.out
                                        (first | subst eo44 | (injection eo44 with f1_ f2_ f3_; have f4_ := f1_.symm; have f5_ := f3_.symm; clear f1_ f2_ f3_; subst f4_; subst f5_))
                                        refine hK.out _ _ hc_ (fun hHeld => ?_)
                                        clear hK K
                                        refine nm_ 55 ?_
                                        refine on_ 8 56 (fun K hK => ?_)
                                        refine goes_ Try.func8 (by kernel_rfl) rfl #[.slice A0 l0.length c0, .slice Ao44 y280.length co44, .bool false] (by rfl) rfl rfl (by (try simp only [List.map_toArray, List.map_cons, List.map_nil]); first | done | rfl | (simp only [List.length_drop, List.length_take]; rfl)) ?_
                                        with_reducible refine (dirs_Walk.calls k2 _ _ l0 _ _ y280 false t283 t284 _ ?side1 ?side2 ?side3 ?side4 A20.out).mono ?_
                                        (case side1 => exact cb_ HR0)
                                        (case side2 => exact HC0.out)
                                        (case side3 => exact cr_ HO282)
                                        (case side4 => exact (Kd.R_reads' HO282.out).2.1)
                                        rintro e w45 ⟨rfl, hb⟩
                                        refine ⟨_, rfl, ?_⟩
                                        replace HO_9 := rb_ HO_9 hb
                                        replace HO_40 := rb_ HO_40 hb
                                        replace HO279 := rb_ HO279 hb
                                        replace HO282 := rb_ HO282 hb
                                        replace BK270 := kb_ BK270 hb
                                        replace HB := hb_ hb
                                        (try clear hb)
                                        (try clear hb2)
                                        (try clear hk)
                                        (try clear hi)
                                        refine hK.out _ _ hc_ (fun hHeld => ?_)
                                        clear hK K
                                        refine nm_ 56 ?_
                                        refine pu_ 9 47 ?_
                                        refine pu_ 10 57 ?_
                                        refine pu_ 11 58 ?_
                                        refine pu_ 12 14 ?_
                                        refine pu_ 13 15 ?_
                                        refine done_ (done_of HT_.out (by kernel_rfl)) ?_
                                        try go_wp2_with (first | ((with_reducible refine gate_callee (f := 10) rfl ?_); refine gl_ (some 62) Try.func10 #[.slice A0 l0.length c0, .int .u32 t283] ?_; (with_reducible refine (dirs_Get.calls k2 _ _ l0 t283 t285 t286 t287 t288 t289 t290 _ ?side1 ?side2 A21.out).mono ?_); (case side1 => exact cb_ HR0); (case side2 => exact HC0.out); rintro e w46 ⟨rfl, hb⟩; refine ⟨_, rfl, ?_⟩; replace HO_9 := rb_ HO_9 hb; replace HO_40 := rb_ HO_40 hb; replace HO279 := rb_ HO279 hb; replace HO282 := rb_ HO282 hb; replace BK270 := kb_ BK270 hb; replace HB := hb_ hb; (try clear hb); (try clear hb2); (try clear hk); (try clear hi)) | ((with_reducible refine gate_dst (N := 16) rfl ?_); refine bx_ (N := 16) (cs := #[.int .u8 0, .int .u16 0, .int .u32 0, .int .u32 0, .string (⟨#[]⟩ : ByteArray)]) (t := 37) ?_; intro gb291 hg w47 hbox hb; have BK291 := Aside0.mk (hbox); have GW291 := ge_ hg; have GE291 := ge_ hg; have NB270_291 := nl_ BK270 hg; have NB291_270 := ng_ BK270 hg; replace HO_9 := rb_ HO_9 hb; replace HO_40 := rb_ HO_40 hb; replace HO279 := rb_ HO279 hb; replace HO282 := rb_ HO282 hb; replace BK270 := kb_ BK270 hb; replace HB := hb_ hb; clear hb hbox hg; have hnb48 := NB291_270.out; have hnc48 := NB270_291.out; obtain ⟨hcz49_0, hcz49_1, hcz49_2, hcz49_3, hcz49_4⟩ := cl5_ BK291; obtain ⟨hfz49_0, hfz49_1, hfz49_2, hfz49_3, hfz49_4⟩ := fz5_ BK291))
                                        have n0_ : Aside0 (Kd.R k34 34 (((((w47.setCell ⟨gb291, 0, none⟩ (.int .u8 t285)).setCell ⟨gb291, 1, none⟩ (.int .u16 t286)).setCell ⟨gb291, 2, none⟩ (.int .u32 t287)).setCell ⟨gb291, 3, none⟩ (.int .u32 t288)).setCell ⟨gb291, 4, none⟩ (.string t289)) w.heap.size (fun k_ => k_ ≠ gb270) (.slice (some ad269) t251.length co14) t251) := ⟨rw_ HO_9⟩
                                        have n1_ : Aside0 (Kd.R k34 34 (((((w47.setCell ⟨gb291, 0, none⟩ (.int .u8 t285)).setCell ⟨gb291, 1, none⟩ (.int .u16 t286)).setCell ⟨gb291, 2, none⟩ (.int .u32 t287)).setCell ⟨gb291, 3, none⟩ (.int .u32 t288)).setCell ⟨gb291, 4, none⟩ (.string t289)) w.heap.size (fun k_ => k_ ≠ gb270) (.slice (some ad269) t251.length co14) t251) := ⟨rw_ HO_40⟩
                                        have n2_ : Aside0 (Kd.R Kd.string 9 (((((w47.setCell ⟨gb291, 0, none⟩ (.int .u8 t285)).setCell ⟨gb291, 1, none⟩ (.int .u16 t286)).setCell ⟨gb291, 2, none⟩ (.int .u32 t287)).setCell ⟨gb291, 3, none⟩ (.int .u32 t288)).setCell ⟨gb291, 4, none⟩ (.string t289)) w.heap.size (fun k_ => some k_ ≠ (.slice Ao44 y280.length co44 : Value).ownBlock) (.slice Ao43 y277.length co43) y277) := ⟨by (with_reducible repeat (first | apply Kd.R_alloc | apply Kd.R_drewN | apply Kd.R_drew)); exact Kd.R_mono (Kd.R_far (p := ⟨gb291, 4, none⟩) (Kd.R_far (p := ⟨gb291, 3, none⟩) (Kd.R_far (p := ⟨gb291, 2, none⟩) (Kd.R_far (p := ⟨gb291, 1, none⟩) (Kd.R_far (p := ⟨gb291, 0, none⟩) (Kd.R_types HO279.out BK291.out (by decide)) (fun _ hk => hk.2) (.int .u8 t285)) (fun _ hk => hk.2) (.int .u16 t286)) (fun _ hk => hk.2) (.int .u32 t287)) (fun _ hk => hk.2) (.int .u32 t288)) (fun _ hk => hk.2) (.string t289)) (fun _ hk => hk.1.2)⟩
                                        have n3_ : Aside0 (Kd.R Kd.string 9 (((((w47.setCell ⟨gb291, 0, none⟩ (.int .u8 t285)).setCell ⟨gb291, 1, none⟩ (.int .u16 t286)).setCell ⟨gb291, 2, none⟩ (.int .u32 t287)).setCell ⟨gb291, 3, none⟩ (.int .u32 t288)).setCell ⟨gb291, 4, none⟩ (.string t289)) w.heap.size (fun k_ => some k_ ≠ (.slice Ao43 y277.length co43 : Value).ownBlock) (.slice Ao44 y280.length co44) y280) := ⟨rw_ HO282⟩
                                        have n4_ : Aside0 ((((((w47.setCell ⟨gb291, 0, none⟩ (.int .u8 t285)).setCell ⟨gb291, 1, none⟩ (.int .u16 t286)).setCell ⟨gb291, 2, none⟩ (.int .u32 t287)).setCell ⟨gb291, 3, none⟩ (.int .u32 t288)).setCell ⟨gb291, 4, none⟩ (.string t289)).heap[gb270]? = some (.cells #[.string ((rd_T34 t251 x42_2).f0), .int .u32 ((rd_T34 t251 x42_2).f1), .int .u8 ((rd_T34 t251 x42_2).f2)] 34 (0, 0))) := ⟨bs_⟩
                                        have n5_ : Aside0 ((((((w47.setCell ⟨gb291, 0, none⟩ (.int .u8 t285)).setCell ⟨gb291, 1, none⟩ (.int .u16 t286)).setCell ⟨gb291, 2, none⟩ (.int .u32 t287)).setCell ⟨gb291, 3, none⟩ (.int .u32 t288)).setCell ⟨gb291, 4, none⟩ (.string t289)).heap[gb291]? = some (.cells #[.int .u8 t285, .int .u16 t286, .int .u32 t287, .int .u32 t288, .string t289] 37 (0, 0))) := ⟨bs_⟩
                                        have n6_ : Aside0 (Below w.heap.size w (((((w47.setCell ⟨gb291, 0, none⟩ (.int .u8 t285)).setCell ⟨gb291, 1, none⟩ (.int .u16 t286)).setCell ⟨gb291, 2, none⟩ (.int .u32 t287)).setCell ⟨gb291, 3, none⟩ (.int .u32 t288)).setCell ⟨gb291, 4, none⟩ (.string t289))) := ⟨bel_⟩
                                        (try clear HO_9)
                                        (try clear HO_40)
                                        (try clear HO279)
                                        (try clear HO282)
                                        (try clear BK270)
                                        (try clear BK291)
                                        (try clear HB)
                                        generalize (((((w47.setCell ⟨gb291, 0, none⟩ (.int .u8 t285)).setCell ⟨gb291, 1, none⟩ (.int .u16 t286)).setCell ⟨gb291, 2, none⟩ (.int .u32 t287)).setCell ⟨gb291, 3, none⟩ (.int .u32 t288)).setCell ⟨gb291, 4, none⟩ (.string t289)) = w50 at n0_ n1_ n2_ n3_ n4_ n5_ n6_ ⊢
                                        have HO_9 := n0_
                                        have HO_40 := n1_
                                        have HO279 := n2_
                                        have HO282 := n3_
                                        have BK270 := n4_
                                        have BK291 := n5_
                                        have HB := n6_
                                        clear n0_ n1_ n2_ n3_ n4_ n5_ n6_
                                        replace HO_9 := Aside0.mk (Kd.R_drew HO_9.out)
                                        replace HO_40 := Aside0.mk (Kd.R_drew HO_40.out)
                                        replace HO279 := Aside0.mk (Kd.R_drew HO279.out)
                                        replace HO282 := Aside0.mk (Kd.R_drew HO282.out)
                                        replace BK270 := Aside0.mk (blk_drew BK270.out)
                                        replace BK291 := Aside0.mk (blk_drew BK291.out)
                                        replace HB := Aside0.mk (below_drew1 HB.out)
                                        have p292 : 0 ≤ ((ji27) : Int) := of_decide_eq_true (by first | (with_reducible assumption) | assumption)
                                        have q292 : (ji27) < (t251.length : Int) := of_decide_eq_true (by first | (with_reducible assumption) | assumption)
                                        obtain ⟨ad292, e292, hx292_0, hx292_1, hx292_2⟩ := at_T34 (Kd.R_reads' HO_9.out).2.2 (ji27) p292 q292
                                        obtain rfl : ad269 = ad292 := (by injection e292)
                                        replace p292 := eq_true p292
                                        replace q292 := eq_true q292
                                        refine start_ (n := 34) (S := fun w' => w'.cell? ⟨gb270, 0, none⟩ = some (.string ((rd_T34 t251 x42_2).f0)) ∧ w'.cell? ⟨gb270, 1, none⟩ = some (.int .u32 ((rd_T34 t251 x42_2).f1)) ∧ w'.cell? ⟨gb270, 2, none⟩ = some (.int .u8 ((rd_T34 t251 x42_2).f2)) ∧ w'.cell? ⟨gb291, 0, none⟩ = some (.int .u8 t285) ∧ w'.cell? ⟨gb291, 1, none⟩ = some (.int .u16 t286) ∧ w'.cell? ⟨gb291, 2, none⟩ = some (.int .u32 t287) ∧ w'.cell? ⟨gb291, 3, none⟩ = some (.int .u32 t288) ∧ w'.cell? ⟨gb291, 4, none⟩ = some (.string t289) ∧ w'.cell? (ad269.add (((ji27)).toNat * 3)) = some (.string ((rd_T34 t251 (ji27)).f0)) ∧ w'.cell? ⟨(ad269.add (((ji27)).toNat * 3)).block, (ad269.add (((ji27)).toNat * 3)).off + 1, none⟩ = some (.int .u32 ((rd_T34 t251 (ji27)).f1)) ∧ w'.cell? ⟨(ad269.add (((ji27)).toNat * 3)).block, (ad269.add (((ji27)).toNat * 3)).off + 2, none⟩ = some (.int .u8 ((rd_T34 t251 (ji27)).f2))) (ds := []) #[false, false, false, false, false, false, false, false, false, false, false, false, false, false, false, false, false, false, false, false, false, false, false, false, false, false, false, false, false, false, false, false, false, false] (by kernel_rfl) rfl rfl ⟨(blk_cell BK270.out 0).trans rfl, (blk_cell BK270.out 1).trans rfl, (blk_cell BK270.out 2).trans rfl, (blk_cell BK291.out 0).trans rfl, (blk_cell BK291.out 1).trans rfl, (blk_cell BK291.out 2).trans rfl, (blk_cell BK291.out 3).trans rfl, (blk_cell BK291.out 4).trans rfl, hx292_0, hx292_1, hx292_2⟩ (fun hHeld => ?_); refine with_tabW cambiumlaw14_DirsFound.tab13 cambiumlaw14_DirsFound.bits13 (fun HT_ HW_ => ?_)
                                        generalize w50.drew = w51 at HO_9 HO_40 HO279 HO282 BK270 BK291 HB hx292_0 hx292_1 hx292_2 hHeld ⊢
                                        refine pu_ 0 65 ?_
                                        refine pu_ 1 66 ?_
                                        refine pu_ 2 67 ?_
                                        refine pu_ 3 68 ?_
                                        refine pu_ 4 69 ?_
                                        refine tk11_ 5 70 ?_
                                        refine pu_ 6 71 ?_
                                        refine pu_ 7 72 ?_
                                        refine pu_ 8 73 ?_
                                        refine pu_ 9 74 ?_
                                        refine pu_ 10 75 ?_
                                        refine pu_ 11 76 ?_
                                        refine pu_ 12 77 ?_
                                        refine pu_ 13 78 ?_
                                        refine pu_ 15 80 ?_
                                        refine tk11_ 14 79 ?_
                                        refine tk11_ 16 81 ?_
                                        refine pu_ 17 82 ?_
                                        refine pu_ 18 83 ?_
                                        refine pu_ 19 84 ?_
                                        refine pu_ 20 85 ?_
                                        refine pu_ 21 86 ?_
                                        refine pu_ 22 87 ?_
                                        refine pu_ 23 88 ?_
                                        refine pu_ 24 89 ?_
                                        refine pu_ 25 90 ?_
                                        refine pu_ 26 91 ?_
                                        refine pu_ 27 92 ?_
                                        refine pu_ 29 94 ?_
                                        refine tk11_ 28 93 ?_
                                        refine tk11_ 30 95 ?_
                                        refine pu_ 31 96 ?_
                                        refine pu_ 32 97 ?_
                                        refine pu_ 33 98 ?_
                                        refine done_ (done_of HT_.out (by kernel_rfl)) ?_
                                        try go_wp2
                                        go_roundg k2
                                        case measure => have := HJ7.out; have := HK2.out; omega
                                        case rel => exact ⟨(true), (wrap64 (x42_2 + 1)), (by first | rfl | (simp; done) | (simp [*]; done)), (by first | rfl | (simp; done) | (simp [*]; done)), H', ⟨by have := HJ7.out; have := HK2.out; omega⟩, ⟨by (with_reducible repeat (first | apply Kd.R_alloc | apply Kd.R_drewN | apply Kd.R_drew)); exact Kd.R_mono HO_9.out (fun _ hk => trivial)⟩, ⟨by (with_reducible repeat (first | apply Kd.R_alloc | apply Kd.R_drewN | apply Kd.R_drew)); exact Kd.R_mono HO_40.out (fun _ hk => trivial)⟩, ⟨bel_⟩⟩
                                      replace c31 := Bool.eq_false_iff.mpr c31
                                      subst c31
                                      have H1 : (cambiumlaw14_DirsFound.l0 k2 l0 l1 a2 t251 (((rd_T34 t251 x42_2).f0).toList == a2.toList) t251 (t251.length : Int) (wrap64 (x42_2 + 1))) = some r := by rw [if_neg (show ¬ (false = true) by decide)] at H; exact H
                                      clear H
                                      have H := H1
                                      clear H1
                                      have H' := Aside0.mk H
                                      clear H
                                      have p269 : 0 ≤ (x42_2 : Int) := of_decide_eq_true (by first | (with_reducible assumption) | assumption)
                                      have q269 : x42_2 < (t251.length : Int) := of_decide_eq_true (by first | (with_reducible assumption) | assumption)
                                      obtain ⟨ad269, e269, hx269_0, hx269_1, hx269_2⟩ := at_T34 (Kd.R_reads' HO_40.out).2.2 x42_2 p269 q269
                                      cases e269
                                      replace p269 := eq_true p269
                                      replace q269 := eq_true q269
                                      try go_wp2_with (first | ((with_reducible refine gate_dst (N := 13) rfl ?_); refine bx_ (N := 13) (cs := #[.string (⟨#[]⟩ : ByteArray), .int .u32 0, .int .u8 0]) (t := 34) ?_; intro gb270 hg w52 hbox hb; have BK270 := Aside0.mk (hbox); have GW270 := ge_ hg; have GE270 := ge_ hg; replace HO_9 := Aside0.mk (Kd.R_below (Kd.R_elderB (ra_ HO_9) gb270 (Nat.le_of_eq hg.symm)) hb); replace HO_40 := Aside0.mk (Kd.R_below (Kd.R_elderB (ra_ HO_40) gb270 (Nat.le_of_eq hg.symm)) hb); replace HB := hb_ hb; clear hb hbox hg; obtain ⟨hcz53_0, hcz53_1, hcz53_2⟩ := cl3_ BK270; obtain ⟨hfz53_0, hfz53_1, hfz53_2⟩ := fz3_ BK270))
                                      have n0_ : Aside0 (Kd.R k34 34 (((w52.setCell ⟨gb270, 0, none⟩ (.string ((rd_T34 t251 x42_2).f0))).setCell ⟨gb270, 1, none⟩ (.int .u32 ((rd_T34 t251 x42_2).f1))).setCell ⟨gb270, 2, none⟩ (.int .u8 ((rd_T34 t251 x42_2).f2))) w.heap.size (fun k_ => k_ ≠ gb270) (.slice (some ad269) t251.length co14) t251) := ⟨by (with_reducible repeat (first | apply Kd.R_alloc | apply Kd.R_drewN | apply Kd.R_drew)); exact Kd.R_mono (Kd.R_far (p := ⟨gb270, 2, none⟩) (Kd.R_far (p := ⟨gb270, 1, none⟩) (Kd.R_far (p := ⟨gb270, 0, none⟩) (Kd.R_mono HO_9.out (fun k_ hk => (⟨hk, hk.2⟩ : _ ∧ k_ ≠ gb270))) (fun _ hk => hk.2) (.string ((rd_T34 t251 x42_2).f0))) (fun _ hk => hk.2) (.int .u32 ((rd_T34 t251 x42_2).f1))) (fun _ hk => hk.2) (.int .u8 ((rd_T34 t251 x42_2).f2))) (fun _ hk => hk.1.2)⟩
                                      have n1_ : Aside0 (Kd.R k34 34 (((w52.setCell ⟨gb270, 0, none⟩ (.string ((rd_T34 t251 x42_2).f0))).setCell ⟨gb270, 1, none⟩ (.int .u32 ((rd_T34 t251 x42_2).f1))).setCell ⟨gb270, 2, none⟩ (.int .u8 ((rd_T34 t251 x42_2).f2))) w.heap.size (fun k_ => k_ ≠ gb270) (.slice (some ad269) t251.length co14) t251) := ⟨by (with_reducible repeat (first | apply Kd.R_alloc | apply Kd.R_drewN | apply Kd.R_drew)); exact Kd.R_mono (Kd.R_far (p := ⟨gb270, 2, none⟩) (Kd.R_far (p := ⟨gb270, 1, none⟩) (Kd.R_far (p := ⟨gb270, 0, none⟩) (Kd.R_mono HO_40.out (fun k_ hk => (⟨hk, hk.2⟩ : _ ∧ k_ ≠ gb270))) (fun _ hk => hk.2) (.string ((rd_T34 t251 x42_2).f0))) (fun _ hk => hk.2) (.int .u32 ((rd_T34 t251 x42_2).f1))) (fun _ hk => hk.2) (.int .u8 ((rd_T34 t251 x42_2).f2))) (fun _ hk => hk.1.2)⟩
                                      have n2_ : Aside0 ((((w52.setCell ⟨gb270, 0, none⟩ (.string ((rd_T34 t251 x42_2).f0))).setCell ⟨gb270, 1, none⟩ (.int .u32 ((rd_T34 t251 x42_2).f1))).setCell ⟨gb270, 2, none⟩ (.int .u8 ((rd_T34 t251 x42_2).f2))).heap[gb270]? = some (.cells #[.string ((rd_T34 t251 x42_2).f0), .int .u32 ((rd_T34 t251 x42_2).f1), .int .u8 ((rd_T34 t251 x42_2).f2)] 34 (0, 0))) := ⟨bs_⟩
                                      have n3_ : Aside0 (Below w.heap.size w (((w52.setCell ⟨gb270, 0, none⟩ (.string ((rd_T34 t251 x42_2).f0))).setCell ⟨gb270, 1, none⟩ (.int .u32 ((rd_T34 t251 x42_2).f1))).setCell ⟨gb270, 2, none⟩ (.int .u8 ((rd_T34 t251 x42_2).f2)))) := ⟨bel_⟩
                                      (try clear HO_9)
                                      (try clear HO_40)
                                      (try clear BK270)
                                      (try clear HB)
                                      generalize (((w52.setCell ⟨gb270, 0, none⟩ (.string ((rd_T34 t251 x42_2).f0))).setCell ⟨gb270, 1, none⟩ (.int .u32 ((rd_T34 t251 x42_2).f1))).setCell ⟨gb270, 2, none⟩ (.int .u8 ((rd_T34 t251 x42_2).f2))) = w54 at n0_ n1_ n2_ n3_ ⊢
                                      have HO_9 := n0_
                                      have HO_40 := n1_
                                      have BK270 := n2_
                                      have HB := n3_
                                      clear n0_ n1_ n2_ n3_
                                      replace HO_9 := Aside0.mk (Kd.R_drew HO_9.out)
                                      replace HO_40 := Aside0.mk (Kd.R_drew HO_40.out)
                                      replace BK270 := Aside0.mk (blk_drew BK270.out)
                                      replace HB := Aside0.mk (below_drew1 HB.out)
                                      refine start_ (n := 14) (S := fun w' => w'.cell? ⟨gb270, 0, none⟩ = some (.string ((rd_T34 t251 x42_2).f0)) ∧ w'.cell? ⟨gb270, 1, none⟩ = some (.int .u32 ((rd_T34 t251 x42_2).f1)) ∧ w'.cell? ⟨gb270, 2, none⟩ = some (.int .u8 ((rd_T34 t251 x42_2).f2))) (ds := []) #[false, false, false, false, false, false, false, false, false, false, false, false, false, false] (by kernel_rfl) rfl rfl hc_ (fun hHeld => ?_); refine with_tabW cambiumlaw14_DirsFound.tab11 cambiumlaw14_DirsFound.bits11 (fun HT_ HW_ => ?_)
                                      generalize w54.drew = w55 at HO_9 HO_40 BK270 HB hHeld ⊢
                                      refine pu_ 0 48 ?_
                                      refine pu_ 2 50 ?_
                                      refine pu_ 4 52 ?_
                                      refine tk3_ 5 53 ?_
                                      refine join_ (σ := Value × Value × Value) 7 #[true, true, true, true, true, true, true, false, false, false, false, false, false, false] (fun s_ => [(49, s_.1), (51, s_.2.1), (54, s_.2.2)]) (fun s_ w' => (w'.cell? ⟨gb270, 0, none⟩ = some (.string ((rd_T34 t251 x42_2).f0)) ∧ w'.cell? ⟨gb270, 1, none⟩ = some (.int .u32 ((rd_T34 t251 x42_2).f1)) ∧ w'.cell? ⟨gb270, 2, none⟩ = some (.int .u8 ((rd_T34 t251 x42_2).f2))) ∧ (Kd.R Kd.string 9 w' w.heap.size (fun k_ => some k_ ≠ (s_.2.2 : Value).ownBlock) s_.2.1 y274) ∧ (Kd.R Kd.string 9 w' w.heap.size (fun k_ => some k_ ≠ (s_.2.1 : Value).ownBlock) s_.2.2 y277) ∧ (Kd.R k34 34 w' w.heap.size (fun k_ => k_ ≠ gb270) (.slice (some ad269) t251.length co14) t251) ∧ (Kd.R k34 34 w' w.heap.size (fun k_ => k_ ≠ gb270) (.slice (some ad269) t251.length co14) t251) ∧ (w'.heap[gb270]? = some (.cells #[.string ((rd_T34 t251 x42_2).f0), .int .u32 ((rd_T34 t251 x42_2).f1), .int .u8 ((rd_T34 t251 x42_2).f2)] 34 (0, 0))) ∧ (Below w.heap.size w w')) ?_ ?_
                                      rotate_left
                                      · intro hCont
                                        refine two_ (i := 1) (j := 6) (Ni := some 49) (Nj := some 54) #[true, true, true, false, true, true, false, false, false, false, false, false, false, false] #[true, false, true, false, true, true, true, false, false, false, false, false, false, false] rfl rfl rfl rfl (two_of HT_.out (by kernel_rfl)) (by decide) (by decide) (fun K hK => ?_) (fun K hK => ?_)
                                        · skip
                                          refine Kd.R_lit_step Kd.string _ 9 ?hg (N := 49) ?hd (xs := ([] : List ByteArray)) (inner := []) (ok := fun _ => True) (okp := fun _ => True) ?hr ?hp (fun _ hk => hk) trivial (Below.refl _ _) (Nat.le_refl _) (by simp) ?_; (case hd => rfl); (case hg => rfl); (case hr => first | (go_simp; done) | (go_simp; rfl)); (case hp => exact (Reps.none _ _))
                                          intro v272 w56 ho57 hb hg_ hnew_
                                          clear hg_ hnew_
                                          (first | rw [← Ny271.out] at ho57 | (simp only [Int.reduceToNat] at ho57; rw [← Ny271.out] at ho57))
                                          have HO273 := rl_ ho57
                                          replace HO_9 := rb_ HO_9 hb
                                          replace HO_40 := rb_ HO_40 hb
                                          replace BK270 := kb_ BK270 hb
                                          replace HB := hb_ hb
                                          clear hb ho57
                                          refine hK.out _ _ hc_ (fun hHeld => ?_)
                                          clear hK K
                                          refine nm_ 49 ?_
                                          refine two_ (i := 3) (j := 6) (Ni := some 51) (Nj := some 54) #[true, true, true, true, true, true, false, false, false, false, false, false, false, false] #[true, true, true, false, true, true, true, false, false, false, false, false, false, false] rfl rfl rfl rfl (two_of HT_.out (by kernel_rfl)) (by decide) (by decide) (fun K hK => ?_) (fun K hK => ?_)
                                          · skip
                                            refine Kd.R_append_rows_step Kd.string (w0 := w) w.heap.size (by rfl) (.tmp 49) (.tmp 50) 23 9 (.string ⟨#[]⟩) 16 rfl Try.underlying23 info9 rfl (by decide) (by omega) v272 y271 l1 _ _ _ (fun _ => True) (fun _ => False) rfl rfl ?aO ?aR (fun _ _ h => h) (fun _ h => h.elim) ?aF ?aB ?aS ?aL ?_
                                            (case aR => repeat (first | exact (Kd.C_below HR1.out HB.out) | (with_reducible refine Kd.C_alloc ?_ _) | (with_reducible refine Kd.C_drewN ?_ _) | (with_reducible refine Kd.C_drew ?_)))
                                            (case aB => exact bel_)
                                            (case aF => exact (fun _ _ => trivial))
                                            (case aO => exact (ra_ HO273))
                                            (case aS => exact (below_size bel_))
                                            (case aL => have := LMc18.out; omega)
                                            intro v275 w58 ho hb hg hat
                                            rw [← Ny274.out] at ho
                                            have HO276 := Aside0.mk (ho)
                                            replace HO_9 := Aside0.mk (Kd.R_over' (ra_ HO_9) (Kd.R_typed (ra_ HO273)) (by decide) hg)
                                            replace HO_40 := Aside0.mk (Kd.R_over' (ra_ HO_40) (Kd.R_typed (ra_ HO273)) (by decide) hg)
                                            replace BK270 := Aside0.mk (blk_grown (bk_ BK270) hg (Kd.R_ne HO273.out BK270.out (by decide)))
                                            replace HB := Aside0.mk (hb)
                                            clear HO273
                                            clear ho hb hg hat
                                            refine hK.out _ _ hc_ (fun hHeld => ?_)
                                            clear hK K
                                            refine nm_ 51 ?_
                                            refine on_ 6 54 (fun K hK => ?_)
                                            refine Kd.R_lit_step Kd.string _ 9 ?hg (N := 54) ?hd (xs := ([(rd_T34 t251 x42_2).f0] : List ByteArray)) (inner := [.string ((rd_T34 t251 x42_2).f0)]) (ok := fun _ => True) (okp := fun _ => True) ?hr ?hp (fun _ hk => hk) trivial (Below.refl _ _) (Nat.le_refl _) (by simp) ?_; (case hd => rfl); (case hg => rfl); (case hr => first | (go_simp; done) | (go_simp; rfl)); (case hp => exact (Reps.one (show Kd.M Kd.string _ _ _ ((rd_T34 t251 x42_2).f0) [.string ((rd_T34 t251 x42_2).f0)] from rfl) (Reps.none _ _)))
                                            intro v278 w59 ho60 hb hg_ hnew_
                                            clear hg_ hnew_
                                            (first | rw [← Ny277.out] at ho60 | (simp only [Int.reduceToNat] at ho60; rw [← Ny277.out] at ho60))
                                            have HO279 := Aside0.mk (Kd.R_lower (Kd.R_new' ho60 (Kd.R_lt (ra_ HO276))) (below_size bel_))
                                            replace HO_9 := rb_ HO_9 hb
                                            replace HO_40 := rb_ HO_40 hb
                                            replace HO276 := Aside0.mk (Kd.R_elder' (ra_ HO276) (Kd.R_base ho60) hb)
                                            replace BK270 := kb_ BK270 hb
                                            replace HB := hb_ hb
                                            clear hb ho60
                                            refine hK.out _ _ hc_ (fun hHeld => ?_)
                                            clear hK K
                                            refine nm_ 54 ?_
                                            exact norm_ (by simp only [putAll, Act.put, List.setIfInBounds_toArray, List.set_cons_zero, List.set_cons_succ]) (hCont (v272, v275, v278) _ ⟨hHeld, (by (with_reducible repeat (first | apply Kd.R_alloc | apply Kd.R_drewN | apply Kd.R_drew)); exact Kd.R_mono HO276.out (fun _ hk => hk.2)), (by (with_reducible repeat (first | apply Kd.R_alloc | apply Kd.R_drewN | apply Kd.R_drew)); exact Kd.R_mono HO279.out (fun _ hk => hk.2)), (ra_ HO_40), (ra_ HO_9), (bk_ BK270), bel_⟩)
                                          skip
                                          refine Kd.R_lit_step Kd.string _ 9 ?hg (N := 54) ?hd (xs := ([(rd_T34 t251 x42_2).f0] : List ByteArray)) (inner := [.string ((rd_T34 t251 x42_2).f0)]) (ok := fun _ => True) (okp := fun _ => True) ?hr ?hp (fun _ hk => hk) trivial (Below.refl _ _) (Nat.le_refl _) (by simp) ?_; (case hd => rfl); (case hg => rfl); (case hr => first | (go_simp; done) | (go_simp; rfl)); (case hp => exact (Reps.one (show Kd.M Kd.string _ _ _ ((rd_T34 t251 x42_2).f0) [.string ((rd_T34 t251 x42_2).f0)] from rfl) (Reps.none _ _)))
                                          intro v278 w58 ho59 hb hg_ hnew_
                                          clear hg_ hnew_
                                          (first | rw [← Ny277.out] at ho59 | (simp only [Int.reduceToNat] at ho59; rw [← Ny277.out] at ho59))
                                          have HO279 := Aside0.mk (Kd.R_lower (Kd.R_new' ho59 (Kd.R_lt (ra_ HO273))) (below_size bel_))
                                          replace HO_9 := rb_ HO_9 hb
                                          replace HO_40 := rb_ HO_40 hb
                                          replace HO273 := Aside0.mk (Kd.R_elder' (ra_ HO273) (Kd.R_base ho59) hb)
                                          replace BK270 := kb_ BK270 hb
                                          replace HB := hb_ hb
                                          clear hb ho59
                                          refine hK.out _ _ hc_ (fun hHeld => ?_)
                                          clear hK K
                                          refine nm_ 54 ?_
                                          refine on_ 3 51 (fun K hK => ?_)
                                          refine Kd.R_append_rows_step Kd.string (w0 := w) w.heap.size (by rfl) (.tmp 49) (.tmp 50) 23 9 (.string ⟨#[]⟩) 16 rfl Try.underlying23 info9 rfl (by decide) (by omega) v272 y271 l1 _ _ _ (fun k_ => some k_ ≠ (v278 : Value).ownBlock) (fun _ => False) rfl rfl ?aO ?aR (fun _ _ h => h) (fun _ h => h.elim) ?aF ?aB ?aS ?aL ?_
                                          (case aR => repeat (first | exact (Kd.C_below HR1.out HB.out) | (with_reducible refine Kd.C_alloc ?_ _) | (with_reducible refine Kd.C_drewN ?_ _) | (with_reducible refine Kd.C_drew ?_)))
                                          (case aB => exact bel_)
                                          (case aF => exact (fun k_ hk => Kd.fresh' (Kd.R_lt (ra_ HO279)) k_ hk))
                                          (case aO => exact (by (with_reducible repeat (first | apply Kd.R_alloc | apply Kd.R_drewN | apply Kd.R_drew)); exact Kd.R_mono HO273.out (fun _ hk => hk.2)))
                                          (case aS => exact (below_size bel_))
                                          (case aL => have := LMc18.out; omega)
                                          intro v275 w60 ho hb hg hat
                                          rw [← Ny274.out] at ho
                                          have HO276 := Aside0.mk (ho)
                                          replace HO_9 := Aside0.mk (Kd.R_over' (ra_ HO_9) (Kd.R_typed (ra_ HO273)) (by decide) hg)
                                          replace HO_40 := Aside0.mk (Kd.R_over' (ra_ HO_40) (Kd.R_typed (ra_ HO273)) (by decide) hg)
                                          replace BK270 := Aside0.mk (blk_grown (bk_ BK270) hg (Kd.R_ne HO273.out BK270.out (by decide)))
                                          replace HO279 := Aside0.mk (Kd.R_after (ok := (fun _ => True)) (ra_ HO279) hg hat)
                                          replace HB := Aside0.mk (hb)
                                          clear HO273
                                          clear ho hb hg hat
                                          refine hK.out _ _ hc_ (fun hHeld => ?_)
                                          clear hK K
                                          refine nm_ 51 ?_
                                          exact norm_ (by simp only [putAll, Act.put, List.setIfInBounds_toArray, List.set_cons_zero, List.set_cons_succ]) (hCont (v272, v275, v278) _ ⟨hHeld, (ra_ HO276), (by (with_reducible repeat (first | apply Kd.R_alloc | apply Kd.R_drewN | apply Kd.R_drew)); exact Kd.R_mono HO279.out (fun _ hk => hk.2)), (ra_ HO_40), (ra_ HO_9), (bk_ BK270), bel_⟩)
                                        skip
                                        refine Kd.R_lit_step Kd.string _ 9 ?hg (N := 54) ?hd (xs := ([(rd_T34 t251 x42_2).f0] : List ByteArray)) (inner := [.string ((rd_T34 t251 x42_2).f0)]) (ok := fun _ => True) (okp := fun _ => True) ?hr ?hp (fun _ hk => hk) trivial (Below.refl _ _) (Nat.le_refl _) (by simp) ?_; (case hd => rfl); (case hg => rfl); (case hr => first | (go_simp; done) | (go_simp; rfl)); (case hp => exact (Reps.one (show Kd.M Kd.string _ _ _ ((rd_T34 t251 x42_2).f0) [.string ((rd_T34 t251 x42_2).f0)] from rfl) (Reps.none _ _)))
                                        intro v278 w56 ho57 hb hg_ hnew_
                                        clear hg_ hnew_
                                        (first | rw [← Ny277.out] at ho57 | (simp only [Int.reduceToNat] at ho57; rw [← Ny277.out] at ho57))
                                        have HO279 := rl_ ho57
                                        replace HO_9 := rb_ HO_9 hb
                                        replace HO_40 := rb_ HO_40 hb
                                        replace BK270 := kb_ BK270 hb
                                        replace HB := hb_ hb
                                        clear hb ho57
                                        refine hK.out _ _ hc_ (fun hHeld => ?_)
                                        clear hK K
                                        refine nm_ 54 ?_
                                        refine on_ 1 49 (fun K hK => ?_)
                                        refine Kd.R_lit_step Kd.string _ 9 ?hg (N := 49) ?hd (xs := ([] : List ByteArray)) (inner := []) (ok := fun _ => True) (okp := fun _ => True) ?hr ?hp (fun _ hk => hk) trivial (Below.refl _ _) (Nat.le_refl _) (by simp) ?_; (case hd => rfl); (case hg => rfl); (case hr => first | (go_simp; done) | (go_simp; rfl)); (case hp => exact (Reps.none _ _))
                                        intro v272 w58 ho59 hb hg_ hnew_
                                        clear hg_ hnew_
                                        (first | rw [← Ny271.out] at ho59 | (simp only [Int.reduceToNat] at ho59; rw [← Ny271.out] at ho59))
                                        have HO273 := Aside0.mk (Kd.R_lower (Kd.R_new' ho59 (Kd.R_lt (ra_ HO279))) (below_size bel_))
                                        replace HO_9 := rb_ HO_9 hb
                                        replace HO_40 := rb_ HO_40 hb
                                        replace HO279 := Aside0.mk (Kd.R_elder' (ra_ HO279) (Kd.R_base ho59) hb)
                                        replace BK270 := kb_ BK270 hb
                                        replace HB := hb_ hb
                                        clear hb ho59
                                        refine hK.out _ _ hc_ (fun hHeld => ?_)
                                        clear hK K
                                        refine nm_ 49 ?_
                                        refine on_ 3 51 (fun K hK => ?_)
                                        refine Kd.R_append_rows_step Kd.string (w0 := w) w.heap.size (by rfl) (.tmp 49) (.tmp 50) 23 9 (.string ⟨#[]⟩) 16 rfl Try.underlying23 info9 rfl (by decide) (by omega) v272 y271 l1 _ _ _ (fun k_ => some k_ ≠ (v278 : Value).ownBlock) (fun _ => False) rfl rfl ?aO ?aR (fun _ _ h => h) (fun _ h => h.elim) ?aF ?aB ?aS ?aL ?_
                                        (case aR => repeat (first | exact (Kd.C_below HR1.out HB.out) | (with_reducible refine Kd.C_alloc ?_ _) | (with_reducible refine Kd.C_drewN ?_ _) | (with_reducible refine Kd.C_drew ?_)))
                                        (case aB => exact bel_)
                                        (case aF => exact (fun k_ hk => Kd.fresh' (Kd.R_lt (ra_ HO279)) k_ hk))
                                        (case aO => exact (by (with_reducible repeat (first | apply Kd.R_alloc | apply Kd.R_drewN | apply Kd.R_drew)); exact Kd.R_mono HO273.out (fun _ hk => hk.2)))
                                        (case aS => exact (below_size bel_))
                                        (case aL => have := LMc18.out; omega)
                                        intro v275 w60 ho hb hg hat
                                        rw [← Ny274.out] at ho
                                        have HO276 := Aside0.mk (ho)
                                        replace HO_9 := Aside0.mk (Kd.R_over' (ra_ HO_9) (Kd.R_typed (ra_ HO273)) (by decide) hg)
                                        replace HO_40 := Aside0.mk (Kd.R_over' (ra_ HO_40) (Kd.R_typed (ra_ HO273)) (by decide) hg)
                                        replace BK270 := Aside0.mk (blk_grown (bk_ BK270) hg (Kd.R_ne HO273.out BK270.out (by decide)))
                                        replace HO279 := Aside0.mk (Kd.R_after (ok := (fun _ => True)) (ra_ HO279) hg hat)
                                        replace HB := Aside0.mk (hb)
                                        clear HO273
                                        clear ho hb hg hat
                                        refine hK.out _ _ hc_ (fun hHeld => ?_)
                                        clear hK K
                                        refine nm_ 51 ?_
                                        exact norm_ (by simp only [putAll, Act.put, List.setIfInBounds_toArray, List.set_cons_zero, List.set_cons_succ]) (hCont (v272, v275, v278) _ ⟨hHeld, (ra_ HO276), (by (with_reducible repeat (first | apply Kd.R_alloc | apply Kd.R_drewN | apply Kd.R_drew)); exact Kd.R_mono HO279.out (fun _ hk => hk.2)), (ra_ HO_40), (ra_ HO_9), (bk_ BK270), bel_⟩)
                                      rintro ⟨v272, v275, v278⟩ w61 ⟨hS_, h0_, h1_, h2_, h3_, h4_, h5_⟩
                                      have n0_ : Aside0 (Kd.R Kd.string 9 w61 w.heap.size (fun k_ => some k_ ≠ (v278 : Value).ownBlock) v275 y274) := ⟨h0_⟩
                                      have n1_ : Aside0 (Kd.R Kd.string 9 w61 w.heap.size (fun k_ => some k_ ≠ (v275 : Value).ownBlock) v278 y277) := ⟨h1_⟩
                                      have n2_ : Aside0 (Kd.R k34 34 w61 w.heap.size (fun k_ => k_ ≠ gb270) (.slice (some ad269) t251.length co14) t251) := ⟨h2_⟩
                                      have n3_ : Aside0 (Kd.R k34 34 w61 w.heap.size (fun k_ => k_ ≠ gb270) (.slice (some ad269) t251.length co14) t251) := ⟨h3_⟩
                                      have n4_ : Aside0 (w61.heap[gb270]? = some (.cells #[.string ((rd_T34 t251 x42_2).f0), .int .u32 ((rd_T34 t251 x42_2).f1), .int .u8 ((rd_T34 t251 x42_2).f2)] 34 (0, 0))) := ⟨h4_⟩
                                      have n5_ : Aside0 (Below w.heap.size w w61) := ⟨h5_⟩
                                      clear HO_9
                                      clear HO_40
                                      clear BK270
                                      clear HB
                                      clear h0_ h1_ h2_ h3_ h4_ h5_
                                      have HO276 := n0_
                                      have HO279 := n1_
                                      have HO_40 := n2_
                                      have HO_9 := n3_
                                      have BK270 := n4_
                                      have HB := n5_
                                      clear n0_ n1_ n2_ n3_ n4_ n5_
                                      have hHeld : w61.cell? ⟨gb270, 0, none⟩ = some (.string ((rd_T34 t251 x42_2).f0)) ∧ w61.cell? ⟨gb270, 1, none⟩ = some (.int .u32 ((rd_T34 t251 x42_2).f1)) ∧ w61.cell? ⟨gb270, 2, none⟩ = some (.int .u8 ((rd_T34 t251 x42_2).f2)) := hS_
                                      obtain ⟨Ao63, co63, eo63⟩ := Kd.R_slice HO279.out
                                      (first | subst eo63 | (injection eo63 with f1_ f2_ f3_; have f4_ := f1_.symm; have f5_ := f3_.symm; clear f1_ f2_ f3_; subst f4_; subst f5_))
                                      refine norm_ (a' := ?_) ?_ ?_
                                      rotate_left
                                      · simp only [putAll, Act.put, List.setIfInBounds_toArray, List.set_cons_zero, List.set_cons_succ]
                                        rfl
                                      refine on_ 7 55 (fun K hK => ?_)
                                      refine Kd.R_append_rows_step Kd.string (w0 := w) w.heap.size (by rfl) (.tmp 51) (.tmp 54) 23 9 (.string ⟨#[]⟩) 16 rfl Try.underlying23 info9 rfl (by decide) (by omega) v275 y274 y277 _ _ _ (fun k_ => some k_ ≠ (.slice Ao63 y277.length co63 : Value).ownBlock) (fun _ => False) rfl rfl ?aO ?aR (fun _ _ h => h) (fun _ h => h.elim) ?aF ?aB ?aS ?aL ?_
                                      (case aR => exact cr_ HO279)
                                      (case aB => exact bel_)
                                      (case aF => exact (fun k_ hk => Kd.fresh' (Kd.R_lt (ra_ HO279)) k_ hk))
                                      (case aO => exact (ra_ HO276))
                                      (case aS => exact (below_size bel_))
                                      (case aL => have := LMc19.out; omega)
                                      intro v281 w62 ho hb hg hat
                                      rw [← Ny280.out] at ho
                                      have HO282 := Aside0.mk (ho)
                                      replace HO_9 := Aside0.mk (Kd.R_over' (ra_ HO_9) (Kd.R_typed (ra_ HO276)) (by decide) hg)
                                      replace HO_40 := Aside0.mk (Kd.R_over' (ra_ HO_40) (Kd.R_typed (ra_ HO276)) (by decide) hg)
                                      replace BK270 := Aside0.mk (blk_grown (bk_ BK270) hg (Kd.R_ne HO276.out BK270.out (by decide)))
                                      replace HO279 := Aside0.mk (Kd.R_after (ok := (fun _ => True)) (by (with_reducible repeat (first | apply Kd.R_alloc | apply Kd.R_drewN | apply Kd.R_drew)); exact Kd.R_mono HO279.out (fun _ hk => ⟨trivial, hk⟩)) hg hat)
                                      replace HB := Aside0.mk (hb)
                                      clear HO276
                                      clear ho hb hg hat
                                      obtain ⟨Ao64, co64, eo64⟩ := Kd.R_slice HO282.out
                                      (first | subst eo64 | (injection eo64 with f1_ f2_ f3_; have f4_ := f1_.symm; have f5_ := f3_.symm; clear f1_ f2_ f3_; subst f4_; subst f5_))
                                      refine hK.out _ _ hc_ (fun hHeld => ?_)
                                      clear hK K
                                      refine nm_ 55 ?_
                                      refine on_ 8 56 (fun K hK => ?_)
                                      refine goes_ Try.func8 (by kernel_rfl) rfl #[.slice A0 l0.length c0, .slice Ao64 y280.length co64, .bool false] (by rfl) rfl rfl (by (try simp only [List.map_toArray, List.map_cons, List.map_nil]); first | done | rfl | (simp only [List.length_drop, List.length_take]; rfl)) ?_
                                      with_reducible refine (dirs_Walk.calls k2 _ _ l0 _ _ y280 false t283 t284 _ ?side1 ?side2 ?side3 ?side4 A20.out).mono ?_
                                      (case side1 => exact cb_ HR0)
                                      (case side2 => exact HC0.out)
                                      (case side3 => exact cr_ HO282)
                                      (case side4 => exact (Kd.R_reads' HO282.out).2.1)
                                      rintro e w65 ⟨rfl, hb⟩
                                      refine ⟨_, rfl, ?_⟩
                                      replace HO_9 := rb_ HO_9 hb
                                      replace HO_40 := rb_ HO_40 hb
                                      replace HO279 := rb_ HO279 hb
                                      replace HO282 := rb_ HO282 hb
                                      replace BK270 := kb_ BK270 hb
                                      replace HB := hb_ hb
                                      (try clear hb)
                                      (try clear hb2)
                                      (try clear hk)
                                      (try clear hi)
                                      refine hK.out _ _ hc_ (fun hHeld => ?_)
                                      clear hK K
                                      refine nm_ 56 ?_
                                      refine pu_ 9 47 ?_
                                      refine pu_ 10 57 ?_
                                      refine pu_ 11 58 ?_
                                      refine pu_ 12 14 ?_
                                      refine pu_ 13 15 ?_
                                      refine done_ (done_of HT_.out (by kernel_rfl)) ?_
                                      try go_wp2_with (first | ((with_reducible refine gate_callee (f := 10) rfl ?_); refine gl_ (some 62) Try.func10 #[.slice A0 l0.length c0, .int .u32 t283] ?_; (with_reducible refine (dirs_Get.calls k2 _ _ l0 t283 t285 t286 t287 t288 t289 t290 _ ?side1 ?side2 A21.out).mono ?_); (case side1 => exact cb_ HR0); (case side2 => exact HC0.out); rintro e w66 ⟨rfl, hb⟩; refine ⟨_, rfl, ?_⟩; replace HO_9 := rb_ HO_9 hb; replace HO_40 := rb_ HO_40 hb; replace HO279 := rb_ HO279 hb; replace HO282 := rb_ HO282 hb; replace BK270 := kb_ BK270 hb; replace HB := hb_ hb; (try clear hb); (try clear hb2); (try clear hk); (try clear hi)) | ((with_reducible refine gate_dst (N := 16) rfl ?_); refine bx_ (N := 16) (cs := #[.int .u8 0, .int .u16 0, .int .u32 0, .int .u32 0, .string (⟨#[]⟩ : ByteArray)]) (t := 37) ?_; intro gb291 hg w67 hbox hb; have BK291 := Aside0.mk (hbox); have GW291 := ge_ hg; have GE291 := ge_ hg; have NB270_291 := nl_ BK270 hg; have NB291_270 := ng_ BK270 hg; replace HO_9 := rb_ HO_9 hb; replace HO_40 := rb_ HO_40 hb; replace HO279 := rb_ HO279 hb; replace HO282 := rb_ HO282 hb; replace BK270 := kb_ BK270 hb; replace HB := hb_ hb; clear hb hbox hg; have hnb68 := NB291_270.out; have hnc68 := NB270_291.out; obtain ⟨hcz69_0, hcz69_1, hcz69_2, hcz69_3, hcz69_4⟩ := cl5_ BK291; obtain ⟨hfz69_0, hfz69_1, hfz69_2, hfz69_3, hfz69_4⟩ := fz5_ BK291))
                                      have n0_ : Aside0 (Kd.R k34 34 (((((w67.setCell ⟨gb291, 0, none⟩ (.int .u8 t285)).setCell ⟨gb291, 1, none⟩ (.int .u16 t286)).setCell ⟨gb291, 2, none⟩ (.int .u32 t287)).setCell ⟨gb291, 3, none⟩ (.int .u32 t288)).setCell ⟨gb291, 4, none⟩ (.string t289)) w.heap.size (fun k_ => k_ ≠ gb270) (.slice (some ad269) t251.length co14) t251) := ⟨rw_ HO_9⟩
                                      have n1_ : Aside0 (Kd.R k34 34 (((((w67.setCell ⟨gb291, 0, none⟩ (.int .u8 t285)).setCell ⟨gb291, 1, none⟩ (.int .u16 t286)).setCell ⟨gb291, 2, none⟩ (.int .u32 t287)).setCell ⟨gb291, 3, none⟩ (.int .u32 t288)).setCell ⟨gb291, 4, none⟩ (.string t289)) w.heap.size (fun k_ => k_ ≠ gb270) (.slice (some ad269) t251.length co14) t251) := ⟨rw_ HO_40⟩
                                      have n2_ : Aside0 (Kd.R Kd.string 9 (((((w67.setCell ⟨gb291, 0, none⟩ (.int .u8 t285)).setCell ⟨gb291, 1, none⟩ (.int .u16 t286)).setCell ⟨gb291, 2, none⟩ (.int .u32 t287)).setCell ⟨gb291, 3, none⟩ (.int .u32 t288)).setCell ⟨gb291, 4, none⟩ (.string t289)) w.heap.size (fun k_ => some k_ ≠ (.slice Ao64 y280.length co64 : Value).ownBlock) (.slice Ao63 y277.length co63) y277) := ⟨by (with_reducible repeat (first | apply Kd.R_alloc | apply Kd.R_drewN | apply Kd.R_drew)); exact Kd.R_mono (Kd.R_far (p := ⟨gb291, 4, none⟩) (Kd.R_far (p := ⟨gb291, 3, none⟩) (Kd.R_far (p := ⟨gb291, 2, none⟩) (Kd.R_far (p := ⟨gb291, 1, none⟩) (Kd.R_far (p := ⟨gb291, 0, none⟩) (Kd.R_types HO279.out BK291.out (by decide)) (fun _ hk => hk.2) (.int .u8 t285)) (fun _ hk => hk.2) (.int .u16 t286)) (fun _ hk => hk.2) (.int .u32 t287)) (fun _ hk => hk.2) (.int .u32 t288)) (fun _ hk => hk.2) (.string t289)) (fun _ hk => hk.1.2)⟩
                                      have n3_ : Aside0 (Kd.R Kd.string 9 (((((w67.setCell ⟨gb291, 0, none⟩ (.int .u8 t285)).setCell ⟨gb291, 1, none⟩ (.int .u16 t286)).setCell ⟨gb291, 2, none⟩ (.int .u32 t287)).setCell ⟨gb291, 3, none⟩ (.int .u32 t288)).setCell ⟨gb291, 4, none⟩ (.string t289)) w.heap.size (fun k_ => some k_ ≠ (.slice Ao63 y277.length co63 : Value).ownBlock) (.slice Ao64 y280.length co64) y280) := ⟨rw_ HO282⟩
                                      have n4_ : Aside0 ((((((w67.setCell ⟨gb291, 0, none⟩ (.int .u8 t285)).setCell ⟨gb291, 1, none⟩ (.int .u16 t286)).setCell ⟨gb291, 2, none⟩ (.int .u32 t287)).setCell ⟨gb291, 3, none⟩ (.int .u32 t288)).setCell ⟨gb291, 4, none⟩ (.string t289)).heap[gb270]? = some (.cells #[.string ((rd_T34 t251 x42_2).f0), .int .u32 ((rd_T34 t251 x42_2).f1), .int .u8 ((rd_T34 t251 x42_2).f2)] 34 (0, 0))) := ⟨bs_⟩
                                      have n5_ : Aside0 ((((((w67.setCell ⟨gb291, 0, none⟩ (.int .u8 t285)).setCell ⟨gb291, 1, none⟩ (.int .u16 t286)).setCell ⟨gb291, 2, none⟩ (.int .u32 t287)).setCell ⟨gb291, 3, none⟩ (.int .u32 t288)).setCell ⟨gb291, 4, none⟩ (.string t289)).heap[gb291]? = some (.cells #[.int .u8 t285, .int .u16 t286, .int .u32 t287, .int .u32 t288, .string t289] 37 (0, 0))) := ⟨bs_⟩
                                      have n6_ : Aside0 (Below w.heap.size w (((((w67.setCell ⟨gb291, 0, none⟩ (.int .u8 t285)).setCell ⟨gb291, 1, none⟩ (.int .u16 t286)).setCell ⟨gb291, 2, none⟩ (.int .u32 t287)).setCell ⟨gb291, 3, none⟩ (.int .u32 t288)).setCell ⟨gb291, 4, none⟩ (.string t289))) := ⟨bel_⟩
                                      (try clear HO_9)
                                      (try clear HO_40)
                                      (try clear HO279)
                                      (try clear HO282)
                                      (try clear BK270)
                                      (try clear BK291)
                                      (try clear HB)
                                      generalize (((((w67.setCell ⟨gb291, 0, none⟩ (.int .u8 t285)).setCell ⟨gb291, 1, none⟩ (.int .u16 t286)).setCell ⟨gb291, 2, none⟩ (.int .u32 t287)).setCell ⟨gb291, 3, none⟩ (.int .u32 t288)).setCell ⟨gb291, 4, none⟩ (.string t289)) = w70 at n0_ n1_ n2_ n3_ n4_ n5_ n6_ ⊢
                                      have HO_9 := n0_
                                      have HO_40 := n1_
                                      have HO279 := n2_
                                      have HO282 := n3_
                                      have BK270 := n4_
                                      have BK291 := n5_
                                      have HB := n6_
                                      clear n0_ n1_ n2_ n3_ n4_ n5_ n6_
                                      replace HO_9 := Aside0.mk (Kd.R_drew HO_9.out)
                                      replace HO_40 := Aside0.mk (Kd.R_drew HO_40.out)
                                      replace HO279 := Aside0.mk (Kd.R_drew HO279.out)
                                      replace HO282 := Aside0.mk (Kd.R_drew HO282.out)
                                      replace BK270 := Aside0.mk (blk_drew BK270.out)
                                      replace BK291 := Aside0.mk (blk_drew BK291.out)
                                      replace HB := Aside0.mk (below_drew1 HB.out)
                                      have p292 : 0 ≤ ((ji27) : Int) := of_decide_eq_true (by first | (with_reducible assumption) | assumption)
                                      have q292 : (ji27) < (t251.length : Int) := of_decide_eq_true (by first | (with_reducible assumption) | assumption)
                                      obtain ⟨ad292, e292, hx292_0, hx292_1, hx292_2⟩ := at_T34 (Kd.R_reads' HO_9.out).2.2 (ji27) p292 q292
                                      obtain rfl : ad269 = ad292 := (by injection e292)
                                      replace p292 := eq_true p292
                                      replace q292 := eq_true q292
                                      refine start_ (n := 34) (S := fun w' => w'.cell? ⟨gb270, 0, none⟩ = some (.string ((rd_T34 t251 x42_2).f0)) ∧ w'.cell? ⟨gb270, 1, none⟩ = some (.int .u32 ((rd_T34 t251 x42_2).f1)) ∧ w'.cell? ⟨gb270, 2, none⟩ = some (.int .u8 ((rd_T34 t251 x42_2).f2)) ∧ w'.cell? ⟨gb291, 0, none⟩ = some (.int .u8 t285) ∧ w'.cell? ⟨gb291, 1, none⟩ = some (.int .u16 t286) ∧ w'.cell? ⟨gb291, 2, none⟩ = some (.int .u32 t287) ∧ w'.cell? ⟨gb291, 3, none⟩ = some (.int .u32 t288) ∧ w'.cell? ⟨gb291, 4, none⟩ = some (.string t289) ∧ w'.cell? (ad269.add (((ji27)).toNat * 3)) = some (.string ((rd_T34 t251 (ji27)).f0)) ∧ w'.cell? ⟨(ad269.add (((ji27)).toNat * 3)).block, (ad269.add (((ji27)).toNat * 3)).off + 1, none⟩ = some (.int .u32 ((rd_T34 t251 (ji27)).f1)) ∧ w'.cell? ⟨(ad269.add (((ji27)).toNat * 3)).block, (ad269.add (((ji27)).toNat * 3)).off + 2, none⟩ = some (.int .u8 ((rd_T34 t251 (ji27)).f2))) (ds := []) #[false, false, false, false, false, false, false, false, false, false, false, false, false, false, false, false, false, false, false, false, false, false, false, false, false, false, false, false, false, false, false, false, false, false] (by kernel_rfl) rfl rfl ⟨(blk_cell BK270.out 0).trans rfl, (blk_cell BK270.out 1).trans rfl, (blk_cell BK270.out 2).trans rfl, (blk_cell BK291.out 0).trans rfl, (blk_cell BK291.out 1).trans rfl, (blk_cell BK291.out 2).trans rfl, (blk_cell BK291.out 3).trans rfl, (blk_cell BK291.out 4).trans rfl, hx292_0, hx292_1, hx292_2⟩ (fun hHeld => ?_); refine with_tabW cambiumlaw14_DirsFound.tab13 cambiumlaw14_DirsFound.bits13 (fun HT_ HW_ => ?_)
                                      generalize w70.drew = w71 at HO_9 HO_40 HO279 HO282 BK270 BK291 HB hx292_0 hx292_1 hx292_2 hHeld ⊢
                                      refine pu_ 0 65 ?_
                                      refine pu_ 1 66 ?_
                                      refine pu_ 2 67 ?_
                                      refine pu_ 3 68 ?_
                                      refine pu_ 4 69 ?_
                                      refine tk11_ 5 70 ?_
                                      refine pu_ 6 71 ?_
                                      refine pu_ 7 72 ?_
                                      refine pu_ 8 73 ?_
                                      refine pu_ 9 74 ?_
                                      refine pu_ 10 75 ?_
                                      refine pu_ 11 76 ?_
                                      refine pu_ 12 77 ?_
                                      refine pu_ 13 78 ?_
                                      refine pu_ 15 80 ?_
                                      refine tk11_ 14 79 ?_
                                      refine tk11_ 16 81 ?_
                                      refine pu_ 17 82 ?_
                                      refine pu_ 18 83 ?_
                                      refine pu_ 19 84 ?_
                                      refine pu_ 20 85 ?_
                                      refine pu_ 21 86 ?_
                                      refine pu_ 22 87 ?_
                                      refine pu_ 23 88 ?_
                                      refine pu_ 24 89 ?_
                                      refine pu_ 25 90 ?_
                                      refine pu_ 26 91 ?_
                                      refine pu_ 27 92 ?_
                                      refine pu_ 29 94 ?_
                                      refine tk11_ 28 93 ?_
                                      refine tk11_ 30 95 ?_
                                      refine pu_ 31 96 ?_
                                      refine pu_ 32 97 ?_
                                      refine pu_ 33 98 ?_
                                      refine done_ (done_of HT_.out (by kernel_rfl)) ?_
                                      obtain ⟨hcz72_0, hcz72_1, hcz72_2⟩ := cl3_ BK270
                                      obtain ⟨hfz72_0, hfz72_1, hfz72_2⟩ := fz3_ BK270
                                      try go_wp2
                                      go_roundg k2
                                      case measure => have := HJ7.out; have := HK2.out; omega
                                      case rel => exact ⟨((((rd_T34 t251 x42_2).f0).toList == a2.toList)), (wrap64 (x42_2 + 1)), (by first | rfl | (simp; done) | (simp [*]; done)), (by first | rfl | (simp; done) | (simp [*]; done)), H', ⟨by have := HJ7.out; have := HK2.out; omega⟩, ⟨by (with_reducible repeat (first | apply Kd.R_alloc | apply Kd.R_drewN | apply Kd.R_drew)); exact Kd.R_mono HO_9.out (fun _ hk => trivial)⟩, ⟨by (with_reducible repeat (first | apply Kd.R_alloc | apply Kd.R_drewN | apply Kd.R_drew)); exact Kd.R_mono HO_40.out (fun _ hk => trivial)⟩, ⟨bel_⟩⟩
                                    rw [if_neg c30] at H
                                    have c30b0 : (Op.bytesLess (((rd_T34 t251 (ji27)).f0).toList) (((rd_T34 t251 x42_2).f0).toList)) = false := by simpa using c30
                                    clear c30
                                    exact absurd ((Option.some.inj H).trans HT_.out) (by simp)
                                  rw [if_neg c29] at H
                                  exact absurd H (by simp)
                                rw [if_neg c28] at H
                                exact absurd H (by simp)
                              rw [if_neg c26] at H
                              have c26b0 : decide (0 < x42_2) = false := decide_eq_false c26
                              clear c26
                              by_cases c73 : x11_2 = true
                              · subst c73
                                have H1 : (cambiumlaw14_DirsFound.l0 k2 l0 l1 a2 t251 true t251 (t251.length : Int) (wrap64 (x42_2 + 1))) = some r := by rw [if_pos rfl] at H; exact H
                                clear H
                                have H := H1
                                clear H1
                                have H' := Aside0.mk H
                                clear H
                                have p269 : 0 ≤ (x42_2 : Int) := of_decide_eq_true (by first | (with_reducible assumption) | assumption)
                                have q269 : x42_2 < (t251.length : Int) := of_decide_eq_true (by first | (with_reducible assumption) | assumption)
                                obtain ⟨ad269, e269, hx269_0, hx269_1, hx269_2⟩ := at_T34 (Kd.R_reads' HO_40.out).2.2 x42_2 p269 q269
                                cases e269
                                replace p269 := eq_true p269
                                replace q269 := eq_true q269
                                try go_wp2_with (first | ((with_reducible refine gate_dst (N := 13) rfl ?_); refine bx_ (N := 13) (cs := #[.string (⟨#[]⟩ : ByteArray), .int .u32 0, .int .u8 0]) (t := 34) ?_; intro gb270 hg w74 hbox hb; have BK270 := Aside0.mk (hbox); have GW270 := ge_ hg; have GE270 := ge_ hg; replace HO_9 := Aside0.mk (Kd.R_below (Kd.R_elderB (ra_ HO_9) gb270 (Nat.le_of_eq hg.symm)) hb); replace HO_40 := Aside0.mk (Kd.R_below (Kd.R_elderB (ra_ HO_40) gb270 (Nat.le_of_eq hg.symm)) hb); replace HB := hb_ hb; clear hb hbox hg; obtain ⟨hcz75_0, hcz75_1, hcz75_2⟩ := cl3_ BK270; obtain ⟨hfz75_0, hfz75_1, hfz75_2⟩ := fz3_ BK270))
                                have n0_ : Aside0 (Kd.R k34 34 (((w74.setCell ⟨gb270, 0, none⟩ (.string ((rd_T34 t251 x42_2).f0))).setCell ⟨gb270, 1, none⟩ (.int .u32 ((rd_T34 t251 x42_2).f1))).setCell ⟨gb270, 2, none⟩ (.int .u8 ((rd_T34 t251 x42_2).f2))) w.heap.size (fun k_ => k_ ≠ gb270) (.slice (some ad269) t251.length co14) t251) := ⟨by (with_reducible repeat (first | apply Kd.R_alloc | apply Kd.R_drewN | apply Kd.R_drew)); exact Kd.R_mono (Kd.R_far (p := ⟨gb270, 2, none⟩) (Kd.R_far (p := ⟨gb270, 1, none⟩) (Kd.R_far (p := ⟨gb270, 0, none⟩) (Kd.R_mono HO_9.out (fun k_ hk => (⟨hk, hk.2⟩ : _ ∧ k_ ≠ gb270))) (fun _ hk => hk.2) (.string ((rd_T34 t251 x42_2).f0))) (fun _ hk => hk.2) (.int .u32 ((rd_T34 t251 x42_2).f1))) (fun _ hk => hk.2) (.int .u8 ((rd_T34 t251 x42_2).f2))) (fun _ hk => hk.1.2)⟩
                                have n1_ : Aside0 (Kd.R k34 34 (((w74.setCell ⟨gb270, 0, none⟩ (.string ((rd_T34 t251 x42_2).f0))).setCell ⟨gb270, 1, none⟩ (.int .u32 ((rd_T34 t251 x42_2).f1))).setCell ⟨gb270, 2, none⟩ (.int .u8 ((rd_T34 t251 x42_2).f2))) w.heap.size (fun k_ => k_ ≠ gb270) (.slice (some ad269) t251.length co14) t251) := ⟨by (with_reducible repeat (first | apply Kd.R_alloc | apply Kd.R_drewN | apply Kd.R_drew)); exact Kd.R_mono (Kd.R_far (p := ⟨gb270, 2, none⟩) (Kd.R_far (p := ⟨gb270, 1, none⟩) (Kd.R_far (p := ⟨gb270, 0, none⟩) (Kd.R_mono HO_40.out (fun k_ hk => (⟨hk, hk.2⟩ : _ ∧ k_ ≠ gb270))) (fun _ hk => hk.2) (.string ((rd_T34 t251 x42_2).f0))) (fun _ hk => hk.2) (.int .u32 ((rd_T34 t251 x42_2).f1))) (fun _ hk => hk.2) (.int .u8 ((rd_T34 t251 x42_2).f2))) (fun _ hk => hk.1.2)⟩
                                have n2_ : Aside0 ((((w74.setCell ⟨gb270, 0, none⟩ (.string ((rd_T34 t251 x42_2).f0))).setCell ⟨gb270, 1, none⟩ (.int .u32 ((rd_T34 t251 x42_2).f1))).setCell ⟨gb270, 2, none⟩ (.int .u8 ((rd_T34 t251 x42_2).f2))).heap[gb270]? = some (.cells #[.string ((rd_T34 t251 x42_2).f0), .int .u32 ((rd_T34 t251 x42_2).f1), .int .u8 ((rd_T34 t251 x42_2).f2)] 34 (0, 0))) := ⟨bs_⟩
                                have n3_ : Aside0 (Below w.heap.size w (((w74.setCell ⟨gb270, 0, none⟩ (.string ((rd_T34 t251 x42_2).f0))).setCell ⟨gb270, 1, none⟩ (.int .u32 ((rd_T34 t251 x42_2).f1))).setCell ⟨gb270, 2, none⟩ (.int .u8 ((rd_T34 t251 x42_2).f2)))) := ⟨bel_⟩
                                (try clear HO_9)
                                (try clear HO_40)
                                (try clear BK270)
                                (try clear HB)
                                generalize (((w74.setCell ⟨gb270, 0, none⟩ (.string ((rd_T34 t251 x42_2).f0))).setCell ⟨gb270, 1, none⟩ (.int .u32 ((rd_T34 t251 x42_2).f1))).setCell ⟨gb270, 2, none⟩ (.int .u8 ((rd_T34 t251 x42_2).f2))) = w76 at n0_ n1_ n2_ n3_ ⊢
                                have HO_9 := n0_
                                have HO_40 := n1_
                                have BK270 := n2_
                                have HB := n3_
                                clear n0_ n1_ n2_ n3_
                                replace HO_9 := Aside0.mk (Kd.R_drew HO_9.out)
                                replace HO_40 := Aside0.mk (Kd.R_drew HO_40.out)
                                replace BK270 := Aside0.mk (blk_drew BK270.out)
                                replace HB := Aside0.mk (below_drew1 HB.out)
                                refine start_ (n := 14) (S := fun w' => w'.cell? ⟨gb270, 0, none⟩ = some (.string ((rd_T34 t251 x42_2).f0)) ∧ w'.cell? ⟨gb270, 1, none⟩ = some (.int .u32 ((rd_T34 t251 x42_2).f1)) ∧ w'.cell? ⟨gb270, 2, none⟩ = some (.int .u8 ((rd_T34 t251 x42_2).f2))) (ds := []) #[false, false, false, false, false, false, false, false, false, false, false, false, false, false] (by kernel_rfl) rfl rfl hc_ (fun hHeld => ?_); refine with_tabW cambiumlaw14_DirsFound.tab11 cambiumlaw14_DirsFound.bits11 (fun HT_ HW_ => ?_)
                                generalize w76.drew = w77 at HO_9 HO_40 BK270 HB hHeld ⊢
                                refine pu_ 0 48 ?_
                                refine pu_ 2 50 ?_
                                refine pu_ 4 52 ?_
                                refine tk3_ 5 53 ?_
                                refine join_ (σ := Value × Value × Value) 7 #[true, true, true, true, true, true, true, false, false, false, false, false, false, false] (fun s_ => [(49, s_.1), (51, s_.2.1), (54, s_.2.2)]) (fun s_ w' => (w'.cell? ⟨gb270, 0, none⟩ = some (.string ((rd_T34 t251 x42_2).f0)) ∧ w'.cell? ⟨gb270, 1, none⟩ = some (.int .u32 ((rd_T34 t251 x42_2).f1)) ∧ w'.cell? ⟨gb270, 2, none⟩ = some (.int .u8 ((rd_T34 t251 x42_2).f2))) ∧ (Kd.R Kd.string 9 w' w.heap.size (fun k_ => some k_ ≠ (s_.2.2 : Value).ownBlock) s_.2.1 y274) ∧ (Kd.R Kd.string 9 w' w.heap.size (fun k_ => some k_ ≠ (s_.2.1 : Value).ownBlock) s_.2.2 y277) ∧ (Kd.R k34 34 w' w.heap.size (fun k_ => k_ ≠ gb270) (.slice (some ad269) t251.length co14) t251) ∧ (Kd.R k34 34 w' w.heap.size (fun k_ => k_ ≠ gb270) (.slice (some ad269) t251.length co14) t251) ∧ (w'.heap[gb270]? = some (.cells #[.string ((rd_T34 t251 x42_2).f0), .int .u32 ((rd_T34 t251 x42_2).f1), .int .u8 ((rd_T34 t251 x42_2).f2)] 34 (0, 0))) ∧ (Below w.heap.size w w')) ?_ ?_
                                rotate_left
                                · intro hCont
                                  refine two_ (i := 1) (j := 6) (Ni := some 49) (Nj := some 54) #[true, true, true, false, true, true, false, false, false, false, false, false, false, false] #[true, false, true, false, true, true, true, false, false, false, false, false, false, false] rfl rfl rfl rfl (two_of HT_.out (by kernel_rfl)) (by decide) (by decide) (fun K hK => ?_) (fun K hK => ?_)
                                  · skip
                                    refine Kd.R_lit_step Kd.string _ 9 ?hg (N := 49) ?hd (xs := ([] : List ByteArray)) (inner := []) (ok := fun _ => True) (okp := fun _ => True) ?hr ?hp (fun _ hk => hk) trivial (Below.refl _ _) (Nat.le_refl _) (by simp) ?_; (case hd => rfl); (case hg => rfl); (case hr => first | (go_simp; done) | (go_simp; rfl)); (case hp => exact (Reps.none _ _))
                                    intro v272 w78 ho79 hb hg_ hnew_
                                    clear hg_ hnew_
                                    (first | rw [← Ny271.out] at ho79 | (simp only [Int.reduceToNat] at ho79; rw [← Ny271.out] at ho79))
                                    have HO273 := rl_ ho79
                                    replace HO_9 := rb_ HO_9 hb
                                    replace HO_40 := rb_ HO_40 hb
                                    replace BK270 := kb_ BK270 hb
                                    replace HB := hb_ hb
                                    clear hb ho79
                                    refine hK.out _ _ hc_ (fun hHeld => ?_)
                                    clear hK K
                                    refine nm_ 49 ?_
                                    refine two_ (i := 3) (j := 6) (Ni := some 51) (Nj := some 54) #[true, true, true, true, true, true, false, false, false, false, false, false, false, false] #[true, true, true, false, true, true, true, false, false, false, false, false, false, false] rfl rfl rfl rfl (two_of HT_.out (by kernel_rfl)) (by decide) (by decide) (fun K hK => ?_) (fun K hK => ?_)
                                    · skip
                                      refine Kd.R_append_rows_step Kd.string (w0 := w) w.heap.size (by rfl) (.tmp 49) (.tmp 50) 23 9 (.string ⟨#[]⟩) 16 rfl Try.underlying23 info9 rfl (by decide) (by omega) v272 y271 l1 _ _ _ (fun _ => True) (fun _ => False) rfl rfl ?aO ?aR (fun _ _ h => h) (fun _ h => h.elim) ?aF ?aB ?aS ?aL ?_
                                      (case aR => repeat (first | exact (Kd.C_below HR1.out HB.out) | (with_reducible refine Kd.C_alloc ?_ _) | (with_reducible refine Kd.C_drewN ?_ _) | (with_reducible refine Kd.C_drew ?_)))
                                      (case aB => exact bel_)
                                      (case aF => exact (fun _ _ => trivial))
                                      (case aO => exact (ra_ HO273))
                                      (case aS => exact (below_size bel_))
                                      (case aL => have := LMc18.out; omega)
                                      intro v275 w80 ho hb hg hat
                                      rw [← Ny274.out] at ho
                                      have HO276 := Aside0.mk (ho)
                                      replace HO_9 := Aside0.mk (Kd.R_over' (ra_ HO_9) (Kd.R_typed (ra_ HO273)) (by decide) hg)
                                      replace HO_40 := Aside0.mk (Kd.R_over' (ra_ HO_40) (Kd.R_typed (ra_ HO273)) (by decide) hg)
                                      replace BK270 := Aside0.mk (blk_grown (bk_ BK270) hg (Kd.R_ne HO273.out BK270.out (by decide)))
                                      replace HB := Aside0.mk (hb)
                                      clear HO273
                                      clear ho hb hg hat
                                      refine hK.out _ _ hc_ (fun hHeld => ?_)
                                      clear hK K
                                      refine nm_ 51 ?_
                                      refine on_ 6 54 (fun K hK => ?_)
                                      refine Kd.R_lit_step Kd.string _ 9 ?hg (N := 54) ?hd (xs := ([(rd_T34 t251 x42_2).f0] : List ByteArray)) (inner := [.string ((rd_T34 t251 x42_2).f0)]) (ok := fun _ => True) (okp := fun _ => True) ?hr ?hp (fun _ hk => hk) trivial (Below.refl _ _) (Nat.le_refl _) (by simp) ?_; (case hd => rfl); (case hg => rfl); (case hr => first | (go_simp; done) | (go_simp; rfl)); (case hp => exact (Reps.one (show Kd.M Kd.string _ _ _ ((rd_T34 t251 x42_2).f0) [.string ((rd_T34 t251 x42_2).f0)] from rfl) (Reps.none _ _)))
                                      intro v278 w81 ho82 hb hg_ hnew_
                                      clear hg_ hnew_
                                      (first | rw [← Ny277.out] at ho82 | (simp only [Int.reduceToNat] at ho82; rw [← Ny277.out] at ho82))
                                      have HO279 := Aside0.mk (Kd.R_lower (Kd.R_new' ho82 (Kd.R_lt (ra_ HO276))) (below_size bel_))
                                      replace HO_9 := rb_ HO_9 hb
                                      replace HO_40 := rb_ HO_40 hb
                                      replace HO276 := Aside0.mk (Kd.R_elder' (ra_ HO276) (Kd.R_base ho82) hb)
                                      replace BK270 := kb_ BK270 hb
                                      replace HB := hb_ hb
                                      clear hb ho82
                                      refine hK.out _ _ hc_ (fun hHeld => ?_)
                                      clear hK K
                                      refine nm_ 54 ?_
                                      exact norm_ (by simp only [putAll, Act.put, List.setIfInBounds_toArray, List.set_cons_zero, List.set_cons_succ]) (hCont (v272, v275, v278) _ ⟨hHeld, (by (with_reducible repeat (first | apply Kd.R_alloc | apply Kd.R_drewN | apply Kd.R_drew)); exact Kd.R_mono HO276.out (fun _ hk => hk.2)), (by (with_reducible repeat (first | apply Kd.R_alloc | apply Kd.R_drewN | apply Kd.R_drew)); exact Kd.R_mono HO279.out (fun _ hk => hk.2)), (ra_ HO_40), (ra_ HO_9), (bk_ BK270), bel_⟩)
                                    skip
                                    refine Kd.R_lit_step Kd.string _ 9 ?hg (N := 54) ?hd (xs := ([(rd_T34 t251 x42_2).f0] : List ByteArray)) (inner := [.string ((rd_T34 t251 x42_2).f0)]) (ok := fun _ => True) (okp := fun _ => True) ?hr ?hp (fun _ hk => hk) trivial (Below.refl _ _) (Nat.le_refl _) (by simp) ?_; (case hd => rfl); (case hg => rfl); (case hr => first | (go_simp; done) | (go_simp; rfl)); (case hp => exact (Reps.one (show Kd.M Kd.string _ _ _ ((rd_T34 t251 x42_2).f0) [.string ((rd_T34 t251 x42_2).f0)] from rfl) (Reps.none _ _)))
                                    intro v278 w80 ho81 hb hg_ hnew_
                                    clear hg_ hnew_
                                    (first | rw [← Ny277.out] at ho81 | (simp only [Int.reduceToNat] at ho81; rw [← Ny277.out] at ho81))
                                    have HO279 := Aside0.mk (Kd.R_lower (Kd.R_new' ho81 (Kd.R_lt (ra_ HO273))) (below_size bel_))
                                    replace HO_9 := rb_ HO_9 hb
                                    replace HO_40 := rb_ HO_40 hb
                                    replace HO273 := Aside0.mk (Kd.R_elder' (ra_ HO273) (Kd.R_base ho81) hb)
                                    replace BK270 := kb_ BK270 hb
                                    replace HB := hb_ hb
                                    clear hb ho81
                                    refine hK.out _ _ hc_ (fun hHeld => ?_)
                                    clear hK K
                                    refine nm_ 54 ?_
                                    refine on_ 3 51 (fun K hK => ?_)
                                    refine Kd.R_append_rows_step Kd.string (w0 := w) w.heap.size (by rfl) (.tmp 49) (.tmp 50) 23 9 (.string ⟨#[]⟩) 16 rfl Try.underlying23 info9 rfl (by decide) (by omega) v272 y271 l1 _ _ _ (fun k_ => some k_ ≠ (v278 : Value).ownBlock) (fun _ => False) rfl rfl ?aO ?aR (fun _ _ h => h) (fun _ h => h.elim) ?aF ?aB ?aS ?aL ?_
                                    (case aR => repeat (first | exact (Kd.C_below HR1.out HB.out) | (with_reducible refine Kd.C_alloc ?_ _) | (with_reducible refine Kd.C_drewN ?_ _) | (with_reducible refine Kd.C_drew ?_)))
                                    (case aB => exact bel_)
                                    (case aF => exact (fun k_ hk => Kd.fresh' (Kd.R_lt (ra_ HO279)) k_ hk))
                                    (case aO => exact (by (with_reducible repeat (first | apply Kd.R_alloc | apply Kd.R_drewN | apply Kd.R_drew)); exact Kd.R_mono HO273.out (fun _ hk => hk.2)))
                                    (case aS => exact (below_size bel_))
                                    (case aL => have := LMc18.out; omega)
                                    intro v275 w82 ho hb hg hat
                                    rw [← Ny274.out] at ho
                                    have HO276 := Aside0.mk (ho)
                                    replace HO_9 := Aside0.mk (Kd.R_over' (ra_ HO_9) (Kd.R_typed (ra_ HO273)) (by decide) hg)
                                    replace HO_40 := Aside0.mk (Kd.R_over' (ra_ HO_40) (Kd.R_typed (ra_ HO273)) (by decide) hg)
                                    replace BK270 := Aside0.mk (blk_grown (bk_ BK270) hg (Kd.R_ne HO273.out BK270.out (by decide)))
                                    replace HO279 := Aside0.mk (Kd.R_after (ok := (fun _ => True)) (ra_ HO279) hg hat)
                                    replace HB := Aside0.mk (hb)
                                    clear HO273
                                    clear ho hb hg hat
                                    refine hK.out _ _ hc_ (fun hHeld => ?_)
                                    clear hK K
                                    refine nm_ 51 ?_
                                    exact norm_ (by simp only [putAll, Act.put, List.setIfInBounds_toArray, List.set_cons_zero, List.set_cons_succ]) (hCont (v272, v275, v278) _ ⟨hHeld, (ra_ HO276), (by (with_reducible repeat (first | apply Kd.R_alloc | apply Kd.R_drewN | apply Kd.R_drew)); exact Kd.R_mono HO279.out (fun _ hk => hk.2)), (ra_ HO_40), (ra_ HO_9), (bk_ BK270), bel_⟩)
                                  skip
                                  refine Kd.R_lit_step Kd.string _ 9 ?hg (N := 54) ?hd (xs := ([(rd_T34 t251 x42_2).f0] : List ByteArray)) (inner := [.string ((rd_T34 t251 x42_2).f0)]) (ok := fun _ => True) (okp := fun _ => True) ?hr ?hp (fun _ hk => hk) trivial (Below.refl _ _) (Nat.le_refl _) (by simp) ?_; (case hd => rfl); (case hg => rfl); (case hr => first | (go_simp; done) | (go_simp; rfl)); (case hp => exact (Reps.one (show Kd.M Kd.string _ _ _ ((rd_T34 t251 x42_2).f0) [.string ((rd_T34 t251 x42_2).f0)] from rfl) (Reps.none _ _)))
                                  intro v278 w78 ho79 hb hg_ hnew_
                                  clear hg_ hnew_
                                  (first | rw [← Ny277.out] at ho79 | (simp only [Int.reduceToNat] at ho79; rw [← Ny277.out] at ho79))
                                  have HO279 := rl_ ho79
                                  replace HO_9 := rb_ HO_9 hb
                                  replace HO_40 := rb_ HO_40 hb
                                  replace BK270 := kb_ BK270 hb
                                  replace HB := hb_ hb
                                  clear hb ho79
                                  refine hK.out _ _ hc_ (fun hHeld => ?_)
                                  clear hK K
                                  refine nm_ 54 ?_
                                  refine on_ 1 49 (fun K hK => ?_)
                                  refine Kd.R_lit_step Kd.string _ 9 ?hg (N := 49) ?hd (xs := ([] : List ByteArray)) (inner := []) (ok := fun _ => True) (okp := fun _ => True) ?hr ?hp (fun _ hk => hk) trivial (Below.refl _ _) (Nat.le_refl _) (by simp) ?_; (case hd => rfl); (case hg => rfl); (case hr => first | (go_simp; done) | (go_simp; rfl)); (case hp => exact (Reps.none _ _))
                                  intro v272 w80 ho81 hb hg_ hnew_
                                  clear hg_ hnew_
                                  (first | rw [← Ny271.out] at ho81 | (simp only [Int.reduceToNat] at ho81; rw [← Ny271.out] at ho81))
                                  have HO273 := Aside0.mk (Kd.R_lower (Kd.R_new' ho81 (Kd.R_lt (ra_ HO279))) (below_size bel_))
                                  replace HO_9 := rb_ HO_9 hb
                                  replace HO_40 := rb_ HO_40 hb
                                  replace HO279 := Aside0.mk (Kd.R_elder' (ra_ HO279) (Kd.R_base ho81) hb)
                                  replace BK270 := kb_ BK270 hb
                                  replace HB := hb_ hb
                                  clear hb ho81
                                  refine hK.out _ _ hc_ (fun hHeld => ?_)
                                  clear hK K
                                  refine nm_ 49 ?_
                                  refine on_ 3 51 (fun K hK => ?_)
                                  refine Kd.R_append_rows_step Kd.string (w0 := w) w.heap.size (by rfl) (.tmp 49) (.tmp 50) 23 9 (.string ⟨#[]⟩) 16 rfl Try.underlying23 info9 rfl (by decide) (by omega) v272 y271 l1 _ _ _ (fun k_ => some k_ ≠ (v278 : Value).ownBlock) (fun _ => False) rfl rfl ?aO ?aR (fun _ _ h => h) (fun _ h => h.elim) ?aF ?aB ?aS ?aL ?_
                                  (case aR => repeat (first | exact (Kd.C_below HR1.out HB.out) | (with_reducible refine Kd.C_alloc ?_ _) | (with_reducible refine Kd.C_drewN ?_ _) | (with_reducible refine Kd.C_drew ?_)))
                                  (case aB => exact bel_)
                                  (case aF => exact (fun k_ hk => Kd.fresh' (Kd.R_lt (ra_ HO279)) k_ hk))
                                  (case aO => exact (by (with_reducible repeat (first | apply Kd.R_alloc | apply Kd.R_drewN | apply Kd.R_drew)); exact Kd.R_mono HO273.out (fun _ hk => hk.2)))
                                  (case aS => exact (below_size bel_))
                                  (case aL => have := LMc18.out; omega)
                                  intro v275 w82 ho hb hg hat
                                  rw [← Ny274.out] at ho
                                  have HO276 := Aside0.mk (ho)
                                  replace HO_9 := Aside0.mk (Kd.R_over' (ra_ HO_9) (Kd.R_typed (ra_ HO273)) (by decide) hg)
                                  replace HO_40 := Aside0.mk (Kd.R_over' (ra_ HO_40) (Kd.R_typed (ra_ HO273)) (by decide) hg)
                                  replace BK270 := Aside0.mk (blk_grown (bk_ BK270) hg (Kd.R_ne HO273.out BK270.out (by decide)))
                                  replace HO279 := Aside0.mk (Kd.R_after (ok := (fun _ => True)) (ra_ HO279) hg hat)
                                  replace HB := Aside0.mk (hb)
                                  clear HO273
                                  clear ho hb hg hat
                                  refine hK.out _ _ hc_ (fun hHeld => ?_)
                                  clear hK K
                                  refine nm_ 51 ?_
                                  exact norm_ (by simp only [putAll, Act.put, List.setIfInBounds_toArray, List.set_cons_zero, List.set_cons_succ]) (hCont (v272, v275, v278) _ ⟨hHeld, (ra_ HO276), (by (with_reducible repeat (first | apply Kd.R_alloc | apply Kd.R_drewN | apply Kd.R_drew)); exact Kd.R_mono HO279.out (fun _ hk => hk.2)), (ra_ HO_40), (ra_ HO_9), (bk_ BK270), bel_⟩)
                                rintro ⟨v272, v275, v278⟩ w83 ⟨hS_, h0_, h1_, h2_, h3_, h4_, h5_⟩
                                have n0_ : Aside0 (Kd.R Kd.string 9 w83 w.heap.size (fun k_ => some k_ ≠ (v278 : Value).ownBlock) v275 y274) := ⟨h0_⟩
                                have n1_ : Aside0 (Kd.R Kd.string 9 w83 w.heap.size (fun k_ => some k_ ≠ (v275 : Value).ownBlock) v278 y277) := ⟨h1_⟩
                                have n2_ : Aside0 (Kd.R k34 34 w83 w.heap.size (fun k_ => k_ ≠ gb270) (.slice (some ad269) t251.length co14) t251) := ⟨h2_⟩
                                have n3_ : Aside0 (Kd.R k34 34 w83 w.heap.size (fun k_ => k_ ≠ gb270) (.slice (some ad269) t251.length co14) t251) := ⟨h3_⟩
                                have n4_ : Aside0 (w83.heap[gb270]? = some (.cells #[.string ((rd_T34 t251 x42_2).f0), .int .u32 ((rd_T34 t251 x42_2).f1), .int .u8 ((rd_T34 t251 x42_2).f2)] 34 (0, 0))) := ⟨h4_⟩
                                have n5_ : Aside0 (Below w.heap.size w w83) := ⟨h5_⟩
                                clear HO_9
                                clear HO_40
                                clear BK270
                                clear HB
                                clear h0_ h1_ h2_ h3_ h4_ h5_
                                have HO276 := n0_
                                have HO279 := n1_
                                have HO_40 := n2_
                                have HO_9 := n3_
                                have BK270 := n4_
                                have HB := n5_
                                clear n0_ n1_ n2_ n3_ n4_ n5_
                                have hHeld : w83.cell? ⟨gb270, 0, none⟩ = some (.string ((rd_T34 t251 x42_2).f0)) ∧ w83.cell? ⟨gb270, 1, none⟩ = some (.int .u32 ((rd_T34 t251 x42_2).f1)) ∧ w83.cell? ⟨gb270, 2, none⟩ = some (.int .u8 ((rd_T34 t251 x42_2).f2)) := hS_
                                obtain ⟨Ao85, co85, eo85⟩ := Kd.R_slice HO279.out
                                (first | subst eo85 | (injection eo85 with f1_ f2_ f3_; have f4_ := f1_.symm; have f5_ := f3_.symm; clear f1_ f2_ f3_; subst f4_; subst f5_))
                                refine norm_ (a' := ?_) ?_ ?_
                                rotate_left
                                · simp only [putAll, Act.put, List.setIfInBounds_toArray, List.set_cons_zero, List.set_cons_succ]
                                  rfl
                                refine on_ 7 55 (fun K hK => ?_)
                                refine Kd.R_append_rows_step Kd.string (w0 := w) w.heap.size (by rfl) (.tmp 51) (.tmp 54) 23 9 (.string ⟨#[]⟩) 16 rfl Try.underlying23 info9 rfl (by decide) (by omega) v275 y274 y277 _ _ _ (fun k_ => some k_ ≠ (.slice Ao85 y277.length co85 : Value).ownBlock) (fun _ => False) rfl rfl ?aO ?aR (fun _ _ h => h) (fun _ h => h.elim) ?aF ?aB ?aS ?aL ?_
                                (case aR => exact cr_ HO279)
                                (case aB => exact bel_)
                                (case aF => exact (fun k_ hk => Kd.fresh' (Kd.R_lt (ra_ HO279)) k_ hk))
                                (case aO => exact (ra_ HO276))
                                (case aS => exact (below_size bel_))
                                (case aL => have := LMc19.out; omega)
                                intro v281 w84 ho hb hg hat
                                rw [← Ny280.out] at ho
                                have HO282 := Aside0.mk (ho)
                                replace HO_9 := Aside0.mk (Kd.R_over' (ra_ HO_9) (Kd.R_typed (ra_ HO276)) (by decide) hg)
                                replace HO_40 := Aside0.mk (Kd.R_over' (ra_ HO_40) (Kd.R_typed (ra_ HO276)) (by decide) hg)
                                replace BK270 := Aside0.mk (blk_grown (bk_ BK270) hg (Kd.R_ne HO276.out BK270.out (by decide)))
                                replace HO279 := Aside0.mk (Kd.R_after (ok := (fun _ => True)) (by (with_reducible repeat (first | apply Kd.R_alloc | apply Kd.R_drewN | apply Kd.R_drew)); exact Kd.R_mono HO279.out (fun _ hk => ⟨trivial, hk⟩)) hg hat)
                                replace HB := Aside0.mk (hb)
                                clear HO276
                                clear ho hb hg hat
                                obtain ⟨Ao86, co86, eo86⟩ := Kd.R_slice HO282.out
                                (first | subst eo86 | (injection eo86 with f1_ f2_ f3_; have f4_ := f1_.symm; have f5_ := f3_.symm; clear f1_ f2_ f3_; subst f4_; subst f5_))
                                refine hK.out _ _ hc_ (fun hHeld => ?_)
                                clear hK K
                                refine nm_ 55 ?_
                                refine on_ 8 56 (fun K hK => ?_)
                                refine goes_ Try.func8 (by kernel_rfl) rfl #[.slice A0 l0.length c0, .slice Ao86 y280.length co86, .bool false] (by rfl) rfl rfl (by (try simp only [List.map_toArray, List.map_cons, List.map_nil]); first | done | rfl | (simp only [List.length_drop, List.length_take]; rfl)) ?_
                                with_reducible refine (dirs_Walk.calls k2 _ _ l0 _ _ y280 false t283 t284 _ ?side1 ?side2 ?side3 ?side4 A20.out).mono ?_
                                (case side1 => exact cb_ HR0)
                                (case side2 => exact HC0.out)
                                (case side3 => exact cr_ HO282)
                                (case side4 => exact (Kd.R_reads' HO282.out).2.1)
                                rintro e w87 ⟨rfl, hb⟩
                                refine ⟨_, rfl, ?_⟩
                                replace HO_9 := rb_ HO_9 hb
                                replace HO_40 := rb_ HO_40 hb
                                replace HO279 := rb_ HO279 hb
                                replace HO282 := rb_ HO282 hb
                                replace BK270 := kb_ BK270 hb
                                replace HB := hb_ hb
                                (try clear hb)
                                (try clear hb2)
                                (try clear hk)
                                (try clear hi)
                                refine hK.out _ _ hc_ (fun hHeld => ?_)
                                clear hK K
                                refine nm_ 56 ?_
                                refine pu_ 9 47 ?_
                                refine pu_ 10 57 ?_
                                refine pu_ 11 58 ?_
                                refine pu_ 12 14 ?_
                                refine pu_ 13 15 ?_
                                refine done_ (done_of HT_.out (by kernel_rfl)) ?_
                                try go_wp2_with (first | ((with_reducible refine gate_callee (f := 10) rfl ?_); refine gl_ (some 62) Try.func10 #[.slice A0 l0.length c0, .int .u32 t283] ?_; (with_reducible refine (dirs_Get.calls k2 _ _ l0 t283 t285 t286 t287 t288 t289 t290 _ ?side1 ?side2 A21.out).mono ?_); (case side1 => exact cb_ HR0); (case side2 => exact HC0.out); rintro e w88 ⟨rfl, hb⟩; refine ⟨_, rfl, ?_⟩; replace HO_9 := rb_ HO_9 hb; replace HO_40 := rb_ HO_40 hb; replace HO279 := rb_ HO279 hb; replace HO282 := rb_ HO282 hb; replace BK270 := kb_ BK270 hb; replace HB := hb_ hb; (try clear hb); (try clear hb2); (try clear hk); (try clear hi)) | ((with_reducible refine gate_dst (N := 16) rfl ?_); refine bx_ (N := 16) (cs := #[.int .u8 0, .int .u16 0, .int .u32 0, .int .u32 0, .string (⟨#[]⟩ : ByteArray)]) (t := 37) ?_; intro gb291 hg w89 hbox hb; have BK291 := Aside0.mk (hbox); have GW291 := ge_ hg; have GE291 := ge_ hg; have NB270_291 := nl_ BK270 hg; have NB291_270 := ng_ BK270 hg; replace HO_9 := rb_ HO_9 hb; replace HO_40 := rb_ HO_40 hb; replace HO279 := rb_ HO279 hb; replace HO282 := rb_ HO282 hb; replace BK270 := kb_ BK270 hb; replace HB := hb_ hb; clear hb hbox hg; have hnb90 := NB291_270.out; have hnc90 := NB270_291.out; obtain ⟨hcz91_0, hcz91_1, hcz91_2, hcz91_3, hcz91_4⟩ := cl5_ BK291; obtain ⟨hfz91_0, hfz91_1, hfz91_2, hfz91_3, hfz91_4⟩ := fz5_ BK291))
                                have n0_ : Aside0 (Kd.R k34 34 (((((w89.setCell ⟨gb291, 0, none⟩ (.int .u8 t285)).setCell ⟨gb291, 1, none⟩ (.int .u16 t286)).setCell ⟨gb291, 2, none⟩ (.int .u32 t287)).setCell ⟨gb291, 3, none⟩ (.int .u32 t288)).setCell ⟨gb291, 4, none⟩ (.string t289)) w.heap.size (fun k_ => k_ ≠ gb270) (.slice (some ad269) t251.length co14) t251) := ⟨rw_ HO_9⟩
                                have n1_ : Aside0 (Kd.R k34 34 (((((w89.setCell ⟨gb291, 0, none⟩ (.int .u8 t285)).setCell ⟨gb291, 1, none⟩ (.int .u16 t286)).setCell ⟨gb291, 2, none⟩ (.int .u32 t287)).setCell ⟨gb291, 3, none⟩ (.int .u32 t288)).setCell ⟨gb291, 4, none⟩ (.string t289)) w.heap.size (fun k_ => k_ ≠ gb270) (.slice (some ad269) t251.length co14) t251) := ⟨rw_ HO_40⟩
                                have n2_ : Aside0 (Kd.R Kd.string 9 (((((w89.setCell ⟨gb291, 0, none⟩ (.int .u8 t285)).setCell ⟨gb291, 1, none⟩ (.int .u16 t286)).setCell ⟨gb291, 2, none⟩ (.int .u32 t287)).setCell ⟨gb291, 3, none⟩ (.int .u32 t288)).setCell ⟨gb291, 4, none⟩ (.string t289)) w.heap.size (fun k_ => some k_ ≠ (.slice Ao86 y280.length co86 : Value).ownBlock) (.slice Ao85 y277.length co85) y277) := ⟨by (with_reducible repeat (first | apply Kd.R_alloc | apply Kd.R_drewN | apply Kd.R_drew)); exact Kd.R_mono (Kd.R_far (p := ⟨gb291, 4, none⟩) (Kd.R_far (p := ⟨gb291, 3, none⟩) (Kd.R_far (p := ⟨gb291, 2, none⟩) (Kd.R_far (p := ⟨gb291, 1, none⟩) (Kd.R_far (p := ⟨gb291, 0, none⟩) (Kd.R_types HO279.out BK291.out (by decide)) (fun _ hk => hk.2) (.int .u8 t285)) (fun _ hk => hk.2) (.int .u16 t286)) (fun _ hk => hk.2) (.int .u32 t287)) (fun _ hk => hk.2) (.int .u32 t288)) (fun _ hk => hk.2) (.string t289)) (fun _ hk => hk.1.2)⟩
                                have n3_ : Aside0 (Kd.R Kd.string 9 (((((w89.setCell ⟨gb291, 0, none⟩ (.int .u8 t285)).setCell ⟨gb291, 1, none⟩ (.int .u16 t286)).setCell ⟨gb291, 2, none⟩ (.int .u32 t287)).setCell ⟨gb291, 3, none⟩ (.int .u32 t288)).setCell ⟨gb291, 4, none⟩ (.string t289)) w.heap.size (fun k_ => some k_ ≠ (.slice Ao85 y277.length co85 : Value).ownBlock) (.slice Ao86 y280.length co86) y280) := ⟨rw_ HO282⟩
                                have n4_ : Aside0 ((((((w89.setCell ⟨gb291, 0, none⟩ (.int .u8 t285)).setCell ⟨gb291, 1, none⟩ (.int .u16 t286)).setCell ⟨gb291, 2, none⟩ (.int .u32 t287)).setCell ⟨gb291, 3, none⟩ (.int .u32 t288)).setCell ⟨gb291, 4, none⟩ (.string t289)).heap[gb270]? = some (.cells #[.string ((rd_T34 t251 x42_2).f0), .int .u32 ((rd_T34 t251 x42_2).f1), .int .u8 ((rd_T34 t251 x42_2).f2)] 34 (0, 0))) := ⟨bs_⟩
                                have n5_ : Aside0 ((((((w89.setCell ⟨gb291, 0, none⟩ (.int .u8 t285)).setCell ⟨gb291, 1, none⟩ (.int .u16 t286)).setCell ⟨gb291, 2, none⟩ (.int .u32 t287)).setCell ⟨gb291, 3, none⟩ (.int .u32 t288)).setCell ⟨gb291, 4, none⟩ (.string t289)).heap[gb291]? = some (.cells #[.int .u8 t285, .int .u16 t286, .int .u32 t287, .int .u32 t288, .string t289] 37 (0, 0))) := ⟨bs_⟩
                                have n6_ : Aside0 (Below w.heap.size w (((((w89.setCell ⟨gb291, 0, none⟩ (.int .u8 t285)).setCell ⟨gb291, 1, none⟩ (.int .u16 t286)).setCell ⟨gb291, 2, none⟩ (.int .u32 t287)).setCell ⟨gb291, 3, none⟩ (.int .u32 t288)).setCell ⟨gb291, 4, none⟩ (.string t289))) := ⟨bel_⟩
                                (try clear HO_9)
                                (try clear HO_40)
                                (try clear HO279)
                                (try clear HO282)
                                (try clear BK270)
                                (try clear BK291)
                                (try clear HB)
                                generalize (((((w89.setCell ⟨gb291, 0, none⟩ (.int .u8 t285)).setCell ⟨gb291, 1, none⟩ (.int .u16 t286)).setCell ⟨gb291, 2, none⟩ (.int .u32 t287)).setCell ⟨gb291, 3, none⟩ (.int .u32 t288)).setCell ⟨gb291, 4, none⟩ (.string t289)) = w92 at n0_ n1_ n2_ n3_ n4_ n5_ n6_ ⊢
                                have HO_9 := n0_
                                have HO_40 := n1_
                                have HO279 := n2_
                                have HO282 := n3_
                                have BK270 := n4_
                                have BK291 := n5_
                                have HB := n6_
                                clear n0_ n1_ n2_ n3_ n4_ n5_ n6_
                                replace HO_9 := Aside0.mk (Kd.R_drew HO_9.out)
                                replace HO_40 := Aside0.mk (Kd.R_drew HO_40.out)
                                replace HO279 := Aside0.mk (Kd.R_drew HO279.out)
                                replace HO282 := Aside0.mk (Kd.R_drew HO282.out)
                                replace BK270 := Aside0.mk (blk_drew BK270.out)
                                replace BK291 := Aside0.mk (blk_drew BK291.out)
                                replace HB := Aside0.mk (below_drew1 HB.out)
                                refine start_ (n := 34) (S := fun w' => w'.cell? ⟨gb270, 0, none⟩ = some (.string ((rd_T34 t251 x42_2).f0)) ∧ w'.cell? ⟨gb270, 1, none⟩ = some (.int .u32 ((rd_T34 t251 x42_2).f1)) ∧ w'.cell? ⟨gb270, 2, none⟩ = some (.int .u8 ((rd_T34 t251 x42_2).f2)) ∧ w'.cell? ⟨gb291, 0, none⟩ = some (.int .u8 t285) ∧ w'.cell? ⟨gb291, 1, none⟩ = some (.int .u16 t286) ∧ w'.cell? ⟨gb291, 2, none⟩ = some (.int .u32 t287) ∧ w'.cell? ⟨gb291, 3, none⟩ = some (.int .u32 t288) ∧ w'.cell? ⟨gb291, 4, none⟩ = some (.string t289)) (ds := []) #[false, false, false, false, false, false, false, false, false, false, false, false, false, false, false, false, false, false, false, false, false, false, false, false, false, false, false, false, false, false, false, false, false, false] (by kernel_rfl) rfl rfl hc_ (fun hHeld => ?_); refine with_tabW cambiumlaw14_DirsFound.tab13 cambiumlaw14_DirsFound.bits13 (fun HT_ HW_ => ?_)
                                generalize w92.drew = w93 at HO_9 HO_40 HO279 HO282 BK270 BK291 HB hHeld ⊢
                                refine pu_ 0 65 ?_
                                refine pu_ 1 66 ?_
                                refine pu_ 2 67 ?_
                                refine pu_ 3 68 ?_
                                refine pu_ 4 69 ?_
                                refine tk8_ 5 70 ?_
                                refine pu_ 6 71 ?_
                                refine pu_ 7 72 ?_
                                refine pu_ 8 73 ?_
                                refine pu_ 9 74 ?_
                                refine pu_ 10 75 ?_
                                refine pu_ 11 76 ?_
                                refine pu_ 12 77 ?_
                                refine pu_ 13 78 ?_
                                refine pu_ 15 80 ?_
                                refine tk8_ 14 79 ?_
                                refine tk8_ 16 81 ?_
                                refine pu_ 17 82 ?_
                                refine pu_ 18 83 ?_
                                refine pu_ 19 84 ?_
                                refine pu_ 20 85 ?_
                                refine pu_ 21 86 ?_
                                refine pu_ 22 87 ?_
                                refine un_ 23 88 ?_
                                refine un_ 24 89 ?_
                                refine un_ 25 90 ?_
                                refine un_ 26 91 ?_
                                refine un_ 27 92 ?_
                                refine un_ 28 93 ?_
                                refine un_ 29 94 ?_
                                refine un_ 30 95 ?_
                                refine un_ 31 96 ?_
                                refine pu_ 32 97 ?_
                                refine pu_ 33 98 ?_
                                refine done_ (done_of HT_.out (by kernel_rfl)) ?_
                                try go_wp2
                                go_roundg k2
                                case measure => have := HJ7.out; have := HK2.out; omega
                                case rel => exact ⟨(true), (wrap64 (x42_2 + 1)), (by first | rfl | (simp; done) | (simp [*]; done)), (by first | rfl | (simp; done) | (simp [*]; done)), H', ⟨by have := HJ7.out; have := HK2.out; omega⟩, ⟨by (with_reducible repeat (first | apply Kd.R_alloc | apply Kd.R_drewN | apply Kd.R_drew)); exact Kd.R_mono HO_9.out (fun _ hk => trivial)⟩, ⟨by (with_reducible repeat (first | apply Kd.R_alloc | apply Kd.R_drewN | apply Kd.R_drew)); exact Kd.R_mono HO_40.out (fun _ hk => trivial)⟩, ⟨bel_⟩⟩
                              replace c73 := Bool.eq_false_iff.mpr c73
                              subst c73
                              have H1 : (cambiumlaw14_DirsFound.l0 k2 l0 l1 a2 t251 (((rd_T34 t251 x42_2).f0).toList == a2.toList) t251 (t251.length : Int) (wrap64 (x42_2 + 1))) = some r := by rw [if_neg (show ¬ (false = true) by decide)] at H; exact H
                              clear H
                              have H := H1
                              clear H1
                              have H' := Aside0.mk H
                              clear H
                              have p269 : 0 ≤ (x42_2 : Int) := of_decide_eq_true (by first | (with_reducible assumption) | assumption)
                              have q269 : x42_2 < (t251.length : Int) := of_decide_eq_true (by first | (with_reducible assumption) | assumption)
                              obtain ⟨ad269, e269, hx269_0, hx269_1, hx269_2⟩ := at_T34 (Kd.R_reads' HO_40.out).2.2 x42_2 p269 q269
                              cases e269
                              replace p269 := eq_true p269
                              replace q269 := eq_true q269
                              try go_wp2_with (first | ((with_reducible refine gate_dst (N := 13) rfl ?_); refine bx_ (N := 13) (cs := #[.string (⟨#[]⟩ : ByteArray), .int .u32 0, .int .u8 0]) (t := 34) ?_; intro gb270 hg w94 hbox hb; have BK270 := Aside0.mk (hbox); have GW270 := ge_ hg; have GE270 := ge_ hg; replace HO_9 := Aside0.mk (Kd.R_below (Kd.R_elderB (ra_ HO_9) gb270 (Nat.le_of_eq hg.symm)) hb); replace HO_40 := Aside0.mk (Kd.R_below (Kd.R_elderB (ra_ HO_40) gb270 (Nat.le_of_eq hg.symm)) hb); replace HB := hb_ hb; clear hb hbox hg; obtain ⟨hcz95_0, hcz95_1, hcz95_2⟩ := cl3_ BK270; obtain ⟨hfz95_0, hfz95_1, hfz95_2⟩ := fz3_ BK270))
                              have n0_ : Aside0 (Kd.R k34 34 (((w94.setCell ⟨gb270, 0, none⟩ (.string ((rd_T34 t251 x42_2).f0))).setCell ⟨gb270, 1, none⟩ (.int .u32 ((rd_T34 t251 x42_2).f1))).setCell ⟨gb270, 2, none⟩ (.int .u8 ((rd_T34 t251 x42_2).f2))) w.heap.size (fun k_ => k_ ≠ gb270) (.slice (some ad269) t251.length co14) t251) := ⟨by (with_reducible repeat (first | apply Kd.R_alloc | apply Kd.R_drewN | apply Kd.R_drew)); exact Kd.R_mono (Kd.R_far (p := ⟨gb270, 2, none⟩) (Kd.R_far (p := ⟨gb270, 1, none⟩) (Kd.R_far (p := ⟨gb270, 0, none⟩) (Kd.R_mono HO_9.out (fun k_ hk => (⟨hk, hk.2⟩ : _ ∧ k_ ≠ gb270))) (fun _ hk => hk.2) (.string ((rd_T34 t251 x42_2).f0))) (fun _ hk => hk.2) (.int .u32 ((rd_T34 t251 x42_2).f1))) (fun _ hk => hk.2) (.int .u8 ((rd_T34 t251 x42_2).f2))) (fun _ hk => hk.1.2)⟩
                              have n1_ : Aside0 (Kd.R k34 34 (((w94.setCell ⟨gb270, 0, none⟩ (.string ((rd_T34 t251 x42_2).f0))).setCell ⟨gb270, 1, none⟩ (.int .u32 ((rd_T34 t251 x42_2).f1))).setCell ⟨gb270, 2, none⟩ (.int .u8 ((rd_T34 t251 x42_2).f2))) w.heap.size (fun k_ => k_ ≠ gb270) (.slice (some ad269) t251.length co14) t251) := ⟨by (with_reducible repeat (first | apply Kd.R_alloc | apply Kd.R_drewN | apply Kd.R_drew)); exact Kd.R_mono (Kd.R_far (p := ⟨gb270, 2, none⟩) (Kd.R_far (p := ⟨gb270, 1, none⟩) (Kd.R_far (p := ⟨gb270, 0, none⟩) (Kd.R_mono HO_40.out (fun k_ hk => (⟨hk, hk.2⟩ : _ ∧ k_ ≠ gb270))) (fun _ hk => hk.2) (.string ((rd_T34 t251 x42_2).f0))) (fun _ hk => hk.2) (.int .u32 ((rd_T34 t251 x42_2).f1))) (fun _ hk => hk.2) (.int .u8 ((rd_T34 t251 x42_2).f2))) (fun _ hk => hk.1.2)⟩
                              have n2_ : Aside0 ((((w94.setCell ⟨gb270, 0, none⟩ (.string ((rd_T34 t251 x42_2).f0))).setCell ⟨gb270, 1, none⟩ (.int .u32 ((rd_T34 t251 x42_2).f1))).setCell ⟨gb270, 2, none⟩ (.int .u8 ((rd_T34 t251 x42_2).f2))).heap[gb270]? = some (.cells #[.string ((rd_T34 t251 x42_2).f0), .int .u32 ((rd_T34 t251 x42_2).f1), .int .u8 ((rd_T34 t251 x42_2).f2)] 34 (0, 0))) := ⟨bs_⟩
                              have n3_ : Aside0 (Below w.heap.size w (((w94.setCell ⟨gb270, 0, none⟩ (.string ((rd_T34 t251 x42_2).f0))).setCell ⟨gb270, 1, none⟩ (.int .u32 ((rd_T34 t251 x42_2).f1))).setCell ⟨gb270, 2, none⟩ (.int .u8 ((rd_T34 t251 x42_2).f2)))) := ⟨bel_⟩
                              (try clear HO_9)
                              (try clear HO_40)
                              (try clear BK270)
                              (try clear HB)
                              generalize (((w94.setCell ⟨gb270, 0, none⟩ (.string ((rd_T34 t251 x42_2).f0))).setCell ⟨gb270, 1, none⟩ (.int .u32 ((rd_T34 t251 x42_2).f1))).setCell ⟨gb270, 2, none⟩ (.int .u8 ((rd_T34 t251 x42_2).f2))) = w96 at n0_ n1_ n2_ n3_ ⊢
                              have HO_9 := n0_
                              have HO_40 := n1_
                              have BK270 := n2_
                              have HB := n3_
                              clear n0_ n1_ n2_ n3_
                              replace HO_9 := Aside0.mk (Kd.R_drew HO_9.out)
                              replace HO_40 := Aside0.mk (Kd.R_drew HO_40.out)
                              replace BK270 := Aside0.mk (blk_drew BK270.out)
                              replace HB := Aside0.mk (below_drew1 HB.out)
                              refine start_ (n := 14) (S := fun w' => w'.cell? ⟨gb270, 0, none⟩ = some (.string ((rd_T34 t251 x42_2).f0)) ∧ w'.cell? ⟨gb270, 1, none⟩ = some (.int .u32 ((rd_T34 t251 x42_2).f1)) ∧ w'.cell? ⟨gb270, 2, none⟩ = some (.int .u8 ((rd_T34 t251 x42_2).f2))) (ds := []) #[false, false, false, false, false, false, false, false, false, false, false, false, false, false] (by kernel_rfl) rfl rfl hc_ (fun hHeld => ?_); refine with_tabW cambiumlaw14_DirsFound.tab11 cambiumlaw14_DirsFound.bits11 (fun HT_ HW_ => ?_)
                              generalize w96.drew = w97 at HO_9 HO_40 BK270 HB hHeld ⊢
                              refine pu_ 0 48 ?_
                              refine pu_ 2 50 ?_
                              refine pu_ 4 52 ?_
                              refine tk3_ 5 53 ?_
                              refine join_ (σ := Value × Value × Value) 7 #[true, true, true, true, true, true, true, false, false, false, false, false, false, false] (fun s_ => [(49, s_.1), (51, s_.2.1), (54, s_.2.2)]) (fun s_ w' => (w'.cell? ⟨gb270, 0, none⟩ = some (.string ((rd_T34 t251 x42_2).f0)) ∧ w'.cell? ⟨gb270, 1, none⟩ = some (.int .u32 ((rd_T34 t251 x42_2).f1)) ∧ w'.cell? ⟨gb270, 2, none⟩ = some (.int .u8 ((rd_T34 t251 x42_2).f2))) ∧ (Kd.R Kd.string 9 w' w.heap.size (fun k_ => some k_ ≠ (s_.2.2 : Value).ownBlock) s_.2.1 y274) ∧ (Kd.R Kd.string 9 w' w.heap.size (fun k_ => some k_ ≠ (s_.2.1 : Value).ownBlock) s_.2.2 y277) ∧ (Kd.R k34 34 w' w.heap.size (fun k_ => k_ ≠ gb270) (.slice (some ad269) t251.length co14) t251) ∧ (Kd.R k34 34 w' w.heap.size (fun k_ => k_ ≠ gb270) (.slice (some ad269) t251.length co14) t251) ∧ (w'.heap[gb270]? = some (.cells #[.string ((rd_T34 t251 x42_2).f0), .int .u32 ((rd_T34 t251 x42_2).f1), .int .u8 ((rd_T34 t251 x42_2).f2)] 34 (0, 0))) ∧ (Below w.heap.size w w')) ?_ ?_
                              rotate_left
                              · intro hCont
                                refine two_ (i := 1) (j := 6) (Ni := some 49) (Nj := some 54) #[true, true, true, false, true, true, false, false, false, false, false, false, false, false] #[true, false, true, false, true, true, true, false, false, false, false, false, false, false] rfl rfl rfl rfl (two_of HT_.out (by kernel_rfl)) (by decide) (by decide) (fun K hK => ?_) (fun K hK => ?_)
                                · skip
                                  refine Kd.R_lit_step Kd.string _ 9 ?hg (N := 49) ?hd (xs := ([] : List ByteArray)) (inner := []) (ok := fun _ => True) (okp := fun _ => True) ?hr ?hp (fun _ hk => hk) trivial (Below.refl _ _) (Nat.le_refl _) (by simp) ?_; (case hd => rfl); (case hg => rfl); (case hr => first | (go_simp; done) | (go_simp; rfl)); (case hp => exact (Reps.none _ _))
                                  intro v272 w98 ho99 hb hg_ hnew_
                                  clear hg_ hnew_
                                  (first | rw [← Ny271.out] at ho99 | (simp only [Int.reduceToNat] at ho99; rw [← Ny271.out] at ho99))
                                  have HO273 := rl_ ho99
                                  replace HO_9 := rb_ HO_9 hb
                                  replace HO_40 := rb_ HO_40 hb
                                  replace BK270 := kb_ BK270 hb
                                  replace HB := hb_ hb
                                  clear hb ho99
                                  refine hK.out _ _ hc_ (fun hHeld => ?_)
                                  clear hK K
                                  refine nm_ 49 ?_
                                  refine two_ (i := 3) (j := 6) (Ni := some 51) (Nj := some 54) #[true, true, true, true, true, true, false, false, false, false, false, false, false, false] #[true, true, true, false, true, true, true, false, false, false, false, false, false, false] rfl rfl rfl rfl (two_of HT_.out (by kernel_rfl)) (by decide) (by decide) (fun K hK => ?_) (fun K hK => ?_)
                                  · skip
                                    refine Kd.R_append_rows_step Kd.string (w0 := w) w.heap.size (by rfl) (.tmp 49) (.tmp 50) 23 9 (.string ⟨#[]⟩) 16 rfl Try.underlying23 info9 rfl (by decide) (by omega) v272 y271 l1 _ _ _ (fun _ => True) (fun _ => False) rfl rfl ?aO ?aR (fun _ _ h => h) (fun _ h => h.elim) ?aF ?aB ?aS ?aL ?_
                                    (case aR => repeat (first | exact (Kd.C_below HR1.out HB.out) | (with_reducible refine Kd.C_alloc ?_ _) | (with_reducible refine Kd.C_drewN ?_ _) | (with_reducible refine Kd.C_drew ?_)))
                                    (case aB => exact bel_)
                                    (case aF => exact (fun _ _ => trivial))
                                    (case aO => exact (ra_ HO273))
                                    (case aS => exact (below_size bel_))
                                    (case aL => have := LMc18.out; omega)
                                    intro v275 w100 ho hb hg hat
                                    rw [← Ny274.out] at ho
                                    have HO276 := Aside0.mk (ho)
                                    replace HO_9 := Aside0.mk (Kd.R_over' (ra_ HO_9) (Kd.R_typed (ra_ HO273)) (by decide) hg)
                                    replace HO_40 := Aside0.mk (Kd.R_over' (ra_ HO_40) (Kd.R_typed (ra_ HO273)) (by decide) hg)
                                    replace BK270 := Aside0.mk (blk_grown (bk_ BK270) hg (Kd.R_ne HO273.out BK270.out (by decide)))
                                    replace HB := Aside0.mk (hb)
                                    clear HO273
                                    clear ho hb hg hat
                                    refine hK.out _ _ hc_ (fun hHeld => ?_)
                                    clear hK K
                                    refine nm_ 51 ?_
                                    refine on_ 6 54 (fun K hK => ?_)
                                    refine Kd.R_lit_step Kd.string _ 9 ?hg (N := 54) ?hd (xs := ([(rd_T34 t251 x42_2).f0] : List ByteArray)) (inner := [.string ((rd_T34 t251 x42_2).f0)]) (ok := fun _ => True) (okp := fun _ => True) ?hr ?hp (fun _ hk => hk) trivial (Below.refl _ _) (Nat.le_refl _) (by simp) ?_; (case hd => rfl); (case hg => rfl); (case hr => first | (go_simp; done) | (go_simp; rfl)); (case hp => exact (Reps.one (show Kd.M Kd.string _ _ _ ((rd_T34 t251 x42_2).f0) [.string ((rd_T34 t251 x42_2).f0)] from rfl) (Reps.none _ _)))
                                    intro v278 w101 ho102 hb hg_ hnew_
                                    clear hg_ hnew_
                                    (first | rw [← Ny277.out] at ho102 | (simp only [Int.reduceToNat] at ho102; rw [← Ny277.out] at ho102))
                                    have HO279 := Aside0.mk (Kd.R_lower (Kd.R_new' ho102 (Kd.R_lt (ra_ HO276))) (below_size bel_))
                                    replace HO_9 := rb_ HO_9 hb
                                    replace HO_40 := rb_ HO_40 hb
                                    replace HO276 := Aside0.mk (Kd.R_elder' (ra_ HO276) (Kd.R_base ho102) hb)
                                    replace BK270 := kb_ BK270 hb
                                    replace HB := hb_ hb
                                    clear hb ho102
                                    refine hK.out _ _ hc_ (fun hHeld => ?_)
                                    clear hK K
                                    refine nm_ 54 ?_
                                    exact norm_ (by simp only [putAll, Act.put, List.setIfInBounds_toArray, List.set_cons_zero, List.set_cons_succ]) (hCont (v272, v275, v278) _ ⟨hHeld, (by (with_reducible repeat (first | apply Kd.R_alloc | apply Kd.R_drewN | apply Kd.R_drew)); exact Kd.R_mono HO276.out (fun _ hk => hk.2)), (by (with_reducible repeat (first | apply Kd.R_alloc | apply Kd.R_drewN | apply Kd.R_drew)); exact Kd.R_mono HO279.out (fun _ hk => hk.2)), (ra_ HO_40), (ra_ HO_9), (bk_ BK270), bel_⟩)
                                  skip
                                  refine Kd.R_lit_step Kd.string _ 9 ?hg (N := 54) ?hd (xs := ([(rd_T34 t251 x42_2).f0] : List ByteArray)) (inner := [.string ((rd_T34 t251 x42_2).f0)]) (ok := fun _ => True) (okp := fun _ => True) ?hr ?hp (fun _ hk => hk) trivial (Below.refl _ _) (Nat.le_refl _) (by simp) ?_; (case hd => rfl); (case hg => rfl); (case hr => first | (go_simp; done) | (go_simp; rfl)); (case hp => exact (Reps.one (show Kd.M Kd.string _ _ _ ((rd_T34 t251 x42_2).f0) [.string ((rd_T34 t251 x42_2).f0)] from rfl) (Reps.none _ _)))
                                  intro v278 w100 ho101 hb hg_ hnew_
                                  clear hg_ hnew_
                                  (first | rw [← Ny277.out] at ho101 | (simp only [Int.reduceToNat] at ho101; rw [← Ny277.out] at ho101))
                                  have HO279 := Aside0.mk (Kd.R_lower (Kd.R_new' ho101 (Kd.R_lt (ra_ HO273))) (below_size bel_))
                                  replace HO_9 := rb_ HO_9 hb
                                  replace HO_40 := rb_ HO_40 hb
                                  replace HO273 := Aside0.mk (Kd.R_elder' (ra_ HO273) (Kd.R_base ho101) hb)
                                  replace BK270 := kb_ BK270 hb
                                  replace HB := hb_ hb
                                  clear hb ho101
                                  refine hK.out _ _ hc_ (fun hHeld => ?_)
                                  clear hK K
                                  refine nm_ 54 ?_
                                  refine on_ 3 51 (fun K hK => ?_)
                                  refine Kd.R_append_rows_step Kd.string (w0 := w) w.heap.size (by rfl) (.tmp 49) (.tmp 50) 23 9 (.string ⟨#[]⟩) 16 rfl Try.underlying23 info9 rfl (by decide) (by omega) v272 y271 l1 _ _ _ (fun k_ => some k_ ≠ (v278 : Value).ownBlock) (fun _ => False) rfl rfl ?aO ?aR (fun _ _ h => h) (fun _ h => h.elim) ?aF ?aB ?aS ?aL ?_
                                  (case aR => repeat (first | exact (Kd.C_below HR1.out HB.out) | (with_reducible refine Kd.C_alloc ?_ _) | (with_reducible refine Kd.C_drewN ?_ _) | (with_reducible refine Kd.C_drew ?_)))
                                  (case aB => exact bel_)
                                  (case aF => exact (fun k_ hk => Kd.fresh' (Kd.R_lt (ra_ HO279)) k_ hk))
                                  (case aO => exact (by (with_reducible repeat (first | apply Kd.R_alloc | apply Kd.R_drewN | apply Kd.R_drew)); exact Kd.R_mono HO273.out (fun _ hk => hk.2)))
                                  (case aS => exact (below_size bel_))
                                  (case aL => have := LMc18.out; omega)
                                  intro v275 w102 ho hb hg hat
                                  rw [← Ny274.out] at ho
                                  have HO276 := Aside0.mk (ho)
                                  replace HO_9 := Aside0.mk (Kd.R_over' (ra_ HO_9) (Kd.R_typed (ra_ HO273)) (by decide) hg)
                                  replace HO_40 := Aside0.mk (Kd.R_over' (ra_ HO_40) (Kd.R_typed (ra_ HO273)) (by decide) hg)
                                  replace BK270 := Aside0.mk (blk_grown (bk_ BK270) hg (Kd.R_ne HO273.out BK270.out (by decide)))
                                  replace HO279 := Aside0.mk (Kd.R_after (ok := (fun _ => True)) (ra_ HO279) hg hat)
                                  replace HB := Aside0.mk (hb)
                                  clear HO273
                                  clear ho hb hg hat
                                  refine hK.out _ _ hc_ (fun hHeld => ?_)
                                  clear hK K
                                  refine nm_ 51 ?_
                                  exact norm_ (by simp only [putAll, Act.put, List.setIfInBounds_toArray, List.set_cons_zero, List.set_cons_succ]) (hCont (v272, v275, v278) _ ⟨hHeld, (ra_ HO276), (by (with_reducible repeat (first | apply Kd.R_alloc | apply Kd.R_drewN | apply Kd.R_drew)); exact Kd.R_mono HO279.out (fun _ hk => hk.2)), (ra_ HO_40), (ra_ HO_9), (bk_ BK270), bel_⟩)
                                skip
                                refine Kd.R_lit_step Kd.string _ 9 ?hg (N := 54) ?hd (xs := ([(rd_T34 t251 x42_2).f0] : List ByteArray)) (inner := [.string ((rd_T34 t251 x42_2).f0)]) (ok := fun _ => True) (okp := fun _ => True) ?hr ?hp (fun _ hk => hk) trivial (Below.refl _ _) (Nat.le_refl _) (by simp) ?_; (case hd => rfl); (case hg => rfl); (case hr => first | (go_simp; done) | (go_simp; rfl)); (case hp => exact (Reps.one (show Kd.M Kd.string _ _ _ ((rd_T34 t251 x42_2).f0) [.string ((rd_T34 t251 x42_2).f0)] from rfl) (Reps.none _ _)))
                                intro v278 w98 ho99 hb hg_ hnew_
                                clear hg_ hnew_
                                (first | rw [← Ny277.out] at ho99 | (simp only [Int.reduceToNat] at ho99; rw [← Ny277.out] at ho99))
                                have HO279 := rl_ ho99
                                replace HO_9 := rb_ HO_9 hb
                                replace HO_40 := rb_ HO_40 hb
                                replace BK270 := kb_ BK270 hb
                                replace HB := hb_ hb
                                clear hb ho99
                                refine hK.out _ _ hc_ (fun hHeld => ?_)
                                clear hK K
                                refine nm_ 54 ?_
                                refine on_ 1 49 (fun K hK => ?_)
                                refine Kd.R_lit_step Kd.string _ 9 ?hg (N := 49) ?hd (xs := ([] : List ByteArray)) (inner := []) (ok := fun _ => True) (okp := fun _ => True) ?hr ?hp (fun _ hk => hk) trivial (Below.refl _ _) (Nat.le_refl _) (by simp) ?_; (case hd => rfl); (case hg => rfl); (case hr => first | (go_simp; done) | (go_simp; rfl)); (case hp => exact (Reps.none _ _))
                                intro v272 w100 ho101 hb hg_ hnew_
                                clear hg_ hnew_
                                (first | rw [← Ny271.out] at ho101 | (simp only [Int.reduceToNat] at ho101; rw [← Ny271.out] at ho101))
                                have HO273 := Aside0.mk (Kd.R_lower (Kd.R_new' ho101 (Kd.R_lt (ra_ HO279))) (below_size bel_))
                                replace HO_9 := rb_ HO_9 hb
                                replace HO_40 := rb_ HO_40 hb
                                replace HO279 := Aside0.mk (Kd.R_elder' (ra_ HO279) (Kd.R_base ho101) hb)
                                replace BK270 := kb_ BK270 hb
                                replace HB := hb_ hb
                                clear hb ho101
                                refine hK.out _ _ hc_ (fun hHeld => ?_)
                                clear hK K
                                refine nm_ 49 ?_
                                refine on_ 3 51 (fun K hK => ?_)
                                refine Kd.R_append_rows_step Kd.string (w0 := w) w.heap.size (by rfl) (.tmp 49) (.tmp 50) 23 9 (.string ⟨#[]⟩) 16 rfl Try.underlying23 info9 rfl (by decide) (by omega) v272 y271 l1 _ _ _ (fun k_ => some k_ ≠ (v278 : Value).ownBlock) (fun _ => False) rfl rfl ?aO ?aR (fun _ _ h => h) (fun _ h => h.elim) ?aF ?aB ?aS ?aL ?_
                                (case aR => repeat (first | exact (Kd.C_below HR1.out HB.out) | (with_reducible refine Kd.C_alloc ?_ _) | (with_reducible refine Kd.C_drewN ?_ _) | (with_reducible refine Kd.C_drew ?_)))
                                (case aB => exact bel_)
                                (case aF => exact (fun k_ hk => Kd.fresh' (Kd.R_lt (ra_ HO279)) k_ hk))
                                (case aO => exact (by (with_reducible repeat (first | apply Kd.R_alloc | apply Kd.R_drewN | apply Kd.R_drew)); exact Kd.R_mono HO273.out (fun _ hk => hk.2)))
                                (case aS => exact (below_size bel_))
                                (case aL => have := LMc18.out; omega)
                                intro v275 w102 ho hb hg hat
                                rw [← Ny274.out] at ho
                                have HO276 := Aside0.mk (ho)
                                replace HO_9 := Aside0.mk (Kd.R_over' (ra_ HO_9) (Kd.R_typed (ra_ HO273)) (by decide) hg)
                                replace HO_40 := Aside0.mk (Kd.R_over' (ra_ HO_40) (Kd.R_typed (ra_ HO273)) (by decide) hg)
                                replace BK270 := Aside0.mk (blk_grown (bk_ BK270) hg (Kd.R_ne HO273.out BK270.out (by decide)))
                                replace HO279 := Aside0.mk (Kd.R_after (ok := (fun _ => True)) (ra_ HO279) hg hat)
                                replace HB := Aside0.mk (hb)
                                clear HO273
                                clear ho hb hg hat
                                refine hK.out _ _ hc_ (fun hHeld => ?_)
                                clear hK K
                                refine nm_ 51 ?_
                                exact norm_ (by simp only [putAll, Act.put, List.setIfInBounds_toArray, List.set_cons_zero, List.set_cons_succ]) (hCont (v272, v275, v278) _ ⟨hHeld, (ra_ HO276), (by (with_reducible repeat (first | apply Kd.R_alloc | apply Kd.R_drewN | apply Kd.R_drew)); exact Kd.R_mono HO279.out (fun _ hk => hk.2)), (ra_ HO_40), (ra_ HO_9), (bk_ BK270), bel_⟩)
                              rintro ⟨v272, v275, v278⟩ w103 ⟨hS_, h0_, h1_, h2_, h3_, h4_, h5_⟩
                              have n0_ : Aside0 (Kd.R Kd.string 9 w103 w.heap.size (fun k_ => some k_ ≠ (v278 : Value).ownBlock) v275 y274) := ⟨h0_⟩
                              have n1_ : Aside0 (Kd.R Kd.string 9 w103 w.heap.size (fun k_ => some k_ ≠ (v275 : Value).ownBlock) v278 y277) := ⟨h1_⟩
                              have n2_ : Aside0 (Kd.R k34 34 w103 w.heap.size (fun k_ => k_ ≠ gb270) (.slice (some ad269) t251.length co14) t251) := ⟨h2_⟩
                              have n3_ : Aside0 (Kd.R k34 34 w103 w.heap.size (fun k_ => k_ ≠ gb270) (.slice (some ad269) t251.length co14) t251) := ⟨h3_⟩
                              have n4_ : Aside0 (w103.heap[gb270]? = some (.cells #[.string ((rd_T34 t251 x42_2).f0), .int .u32 ((rd_T34 t251 x42_2).f1), .int .u8 ((rd_T34 t251 x42_2).f2)] 34 (0, 0))) := ⟨h4_⟩
                              have n5_ : Aside0 (Below w.heap.size w w103) := ⟨h5_⟩
                              clear HO_9
                              clear HO_40
                              clear BK270
                              clear HB
                              clear h0_ h1_ h2_ h3_ h4_ h5_
                              have HO276 := n0_
                              have HO279 := n1_
                              have HO_40 := n2_
                              have HO_9 := n3_
                              have BK270 := n4_
                              have HB := n5_
                              clear n0_ n1_ n2_ n3_ n4_ n5_
                              have hHeld : w103.cell? ⟨gb270, 0, none⟩ = some (.string ((rd_T34 t251 x42_2).f0)) ∧ w103.cell? ⟨gb270, 1, none⟩ = some (.int .u32 ((rd_T34 t251 x42_2).f1)) ∧ w103.cell? ⟨gb270, 2, none⟩ = some (.int .u8 ((rd_T34 t251 x42_2).f2)) := hS_
                              obtain ⟨Ao105, co105, eo105⟩ := Kd.R_slice HO279.out
                              (first | subst eo105 | (injection eo105 with f1_ f2_ f3_; have f4_ := f1_.symm; have f5_ := f3_.symm; clear f1_ f2_ f3_; subst f4_; subst f5_))
                              refine norm_ (a' := ?_) ?_ ?_
                              rotate_left
                              · simp only [putAll, Act.put, List.setIfInBounds_toArray, List.set_cons_zero, List.set_cons_succ]
                                rfl
                              refine on_ 7 55 (fun K hK => ?_)
                              refine Kd.R_append_rows_step Kd.string (w0 := w) w.heap.size (by rfl) (.tmp 51) (.tmp 54) 23 9 (.string ⟨#[]⟩) 16 rfl Try.underlying23 info9 rfl (by decide) (by omega) v275 y274 y277 _ _ _ (fun k_ => some k_ ≠ (.slice Ao105 y277.length co105 : Value).ownBlock) (fun _ => False) rfl rfl ?aO ?aR (fun _ _ h => h) (fun _ h => h.elim) ?aF ?aB ?aS ?aL ?_
                              (case aR => exact cr_ HO279)
                              (case aB => exact bel_)
                              (case aF => exact (fun k_ hk => Kd.fresh' (Kd.R_lt (ra_ HO279)) k_ hk))
                              (case aO => exact (ra_ HO276))
                              (case aS => exact (below_size bel_))
                              (case aL => have := LMc19.out; omega)
                              intro v281 w104 ho hb hg hat
                              rw [← Ny280.out] at ho
                              have HO282 := Aside0.mk (ho)
                              replace HO_9 := Aside0.mk (Kd.R_over' (ra_ HO_9) (Kd.R_typed (ra_ HO276)) (by decide) hg)
                              replace HO_40 := Aside0.mk (Kd.R_over' (ra_ HO_40) (Kd.R_typed (ra_ HO276)) (by decide) hg)
                              replace BK270 := Aside0.mk (blk_grown (bk_ BK270) hg (Kd.R_ne HO276.out BK270.out (by decide)))
                              replace HO279 := Aside0.mk (Kd.R_after (ok := (fun _ => True)) (by (with_reducible repeat (first | apply Kd.R_alloc | apply Kd.R_drewN | apply Kd.R_drew)); exact Kd.R_mono HO279.out (fun _ hk => ⟨trivial, hk⟩)) hg hat)
                              replace HB := Aside0.mk (hb)
                              clear HO276
                              clear ho hb hg hat
                              obtain ⟨Ao106, co106, eo106⟩ := Kd.R_slice HO282.out
                              (first | subst eo106 | (injection eo106 with f1_ f2_ f3_; have f4_ := f1_.symm; have f5_ := f3_.symm; clear f1_ f2_ f3_; subst f4_; subst f5_))
                              refine hK.out _ _ hc_ (fun hHeld => ?_)
                              clear hK K
                              refine nm_ 55 ?_
                              refine on_ 8 56 (fun K hK => ?_)
                              refine goes_ Try.func8 (by kernel_rfl) rfl #[.slice A0 l0.length c0, .slice Ao106 y280.length co106, .bool false] (by rfl) rfl rfl (by (try simp only [List.map_toArray, List.map_cons, List.map_nil]); first | done | rfl | (simp only [List.length_drop, List.length_take]; rfl)) ?_
                              with_reducible refine (dirs_Walk.calls k2 _ _ l0 _ _ y280 false t283 t284 _ ?side1 ?side2 ?side3 ?side4 A20.out).mono ?_
                              (case side1 => exact cb_ HR0)
                              (case side2 => exact HC0.out)
                              (case side3 => exact cr_ HO282)
                              (case side4 => exact (Kd.R_reads' HO282.out).2.1)
                              rintro e w107 ⟨rfl, hb⟩
                              refine ⟨_, rfl, ?_⟩
                              replace HO_9 := rb_ HO_9 hb
                              replace HO_40 := rb_ HO_40 hb
                              replace HO279 := rb_ HO279 hb
                              replace HO282 := rb_ HO282 hb
                              replace BK270 := kb_ BK270 hb
                              replace HB := hb_ hb
                              (try clear hb)
                              (try clear hb2)
                              (try clear hk)
                              (try clear hi)
                              refine hK.out _ _ hc_ (fun hHeld => ?_)
                              clear hK K
                              refine nm_ 56 ?_
                              refine pu_ 9 47 ?_
                              refine pu_ 10 57 ?_
                              refine pu_ 11 58 ?_
                              refine pu_ 12 14 ?_
                              refine pu_ 13 15 ?_
                              refine done_ (done_of HT_.out (by kernel_rfl)) ?_
                              try go_wp2_with (first | ((with_reducible refine gate_callee (f := 10) rfl ?_); refine gl_ (some 62) Try.func10 #[.slice A0 l0.length c0, .int .u32 t283] ?_; (with_reducible refine (dirs_Get.calls k2 _ _ l0 t283 t285 t286 t287 t288 t289 t290 _ ?side1 ?side2 A21.out).mono ?_); (case side1 => exact cb_ HR0); (case side2 => exact HC0.out); rintro e w108 ⟨rfl, hb⟩; refine ⟨_, rfl, ?_⟩; replace HO_9 := rb_ HO_9 hb; replace HO_40 := rb_ HO_40 hb; replace HO279 := rb_ HO279 hb; replace HO282 := rb_ HO282 hb; replace BK270 := kb_ BK270 hb; replace HB := hb_ hb; (try clear hb); (try clear hb2); (try clear hk); (try clear hi)) | ((with_reducible refine gate_dst (N := 16) rfl ?_); refine bx_ (N := 16) (cs := #[.int .u8 0, .int .u16 0, .int .u32 0, .int .u32 0, .string (⟨#[]⟩ : ByteArray)]) (t := 37) ?_; intro gb291 hg w109 hbox hb; have BK291 := Aside0.mk (hbox); have GW291 := ge_ hg; have GE291 := ge_ hg; have NB270_291 := nl_ BK270 hg; have NB291_270 := ng_ BK270 hg; replace HO_9 := rb_ HO_9 hb; replace HO_40 := rb_ HO_40 hb; replace HO279 := rb_ HO279 hb; replace HO282 := rb_ HO282 hb; replace BK270 := kb_ BK270 hb; replace HB := hb_ hb; clear hb hbox hg; have hnb110 := NB291_270.out; have hnc110 := NB270_291.out; obtain ⟨hcz111_0, hcz111_1, hcz111_2, hcz111_3, hcz111_4⟩ := cl5_ BK291; obtain ⟨hfz111_0, hfz111_1, hfz111_2, hfz111_3, hfz111_4⟩ := fz5_ BK291))
                              have n0_ : Aside0 (Kd.R k34 34 (((((w109.setCell ⟨gb291, 0, none⟩ (.int .u8 t285)).setCell ⟨gb291, 1, none⟩ (.int .u16 t286)).setCell ⟨gb291, 2, none⟩ (.int .u32 t287)).setCell ⟨gb291, 3, none⟩ (.int .u32 t288)).setCell ⟨gb291, 4, none⟩ (.string t289)) w.heap.size (fun k_ => k_ ≠ gb270) (.slice (some ad269) t251.length co14) t251) := ⟨rw_ HO_9⟩
                              have n1_ : Aside0 (Kd.R k34 34 (((((w109.setCell ⟨gb291, 0, none⟩ (.int .u8 t285)).setCell ⟨gb291, 1, none⟩ (.int .u16 t286)).setCell ⟨gb291, 2, none⟩ (.int .u32 t287)).setCell ⟨gb291, 3, none⟩ (.int .u32 t288)).setCell ⟨gb291, 4, none⟩ (.string t289)) w.heap.size (fun k_ => k_ ≠ gb270) (.slice (some ad269) t251.length co14) t251) := ⟨rw_ HO_40⟩
                              have n2_ : Aside0 (Kd.R Kd.string 9 (((((w109.setCell ⟨gb291, 0, none⟩ (.int .u8 t285)).setCell ⟨gb291, 1, none⟩ (.int .u16 t286)).setCell ⟨gb291, 2, none⟩ (.int .u32 t287)).setCell ⟨gb291, 3, none⟩ (.int .u32 t288)).setCell ⟨gb291, 4, none⟩ (.string t289)) w.heap.size (fun k_ => some k_ ≠ (.slice Ao106 y280.length co106 : Value).ownBlock) (.slice Ao105 y277.length co105) y277) := ⟨by (with_reducible repeat (first | apply Kd.R_alloc | apply Kd.R_drewN | apply Kd.R_drew)); exact Kd.R_mono (Kd.R_far (p := ⟨gb291, 4, none⟩) (Kd.R_far (p := ⟨gb291, 3, none⟩) (Kd.R_far (p := ⟨gb291, 2, none⟩) (Kd.R_far (p := ⟨gb291, 1, none⟩) (Kd.R_far (p := ⟨gb291, 0, none⟩) (Kd.R_types HO279.out BK291.out (by decide)) (fun _ hk => hk.2) (.int .u8 t285)) (fun _ hk => hk.2) (.int .u16 t286)) (fun _ hk => hk.2) (.int .u32 t287)) (fun _ hk => hk.2) (.int .u32 t288)) (fun _ hk => hk.2) (.string t289)) (fun _ hk => hk.1.2)⟩
                              have n3_ : Aside0 (Kd.R Kd.string 9 (((((w109.setCell ⟨gb291, 0, none⟩ (.int .u8 t285)).setCell ⟨gb291, 1, none⟩ (.int .u16 t286)).setCell ⟨gb291, 2, none⟩ (.int .u32 t287)).setCell ⟨gb291, 3, none⟩ (.int .u32 t288)).setCell ⟨gb291, 4, none⟩ (.string t289)) w.heap.size (fun k_ => some k_ ≠ (.slice Ao105 y277.length co105 : Value).ownBlock) (.slice Ao106 y280.length co106) y280) := ⟨rw_ HO282⟩
                              have n4_ : Aside0 ((((((w109.setCell ⟨gb291, 0, none⟩ (.int .u8 t285)).setCell ⟨gb291, 1, none⟩ (.int .u16 t286)).setCell ⟨gb291, 2, none⟩ (.int .u32 t287)).setCell ⟨gb291, 3, none⟩ (.int .u32 t288)).setCell ⟨gb291, 4, none⟩ (.string t289)).heap[gb270]? = some (.cells #[.string ((rd_T34 t251 x42_2).f0), .int .u32 ((rd_T34 t251 x42_2).f1), .int .u8 ((rd_T34 t251 x42_2).f2)] 34 (0, 0))) := ⟨bs_⟩
                              have n5_ : Aside0 ((((((w109.setCell ⟨gb291, 0, none⟩ (.int .u8 t285)).setCell ⟨gb291, 1, none⟩ (.int .u16 t286)).setCell ⟨gb291, 2, none⟩ (.int .u32 t287)).setCell ⟨gb291, 3, none⟩ (.int .u32 t288)).setCell ⟨gb291, 4, none⟩ (.string t289)).heap[gb291]? = some (.cells #[.int .u8 t285, .int .u16 t286, .int .u32 t287, .int .u32 t288, .string t289] 37 (0, 0))) := ⟨bs_⟩
                              have n6_ : Aside0 (Below w.heap.size w (((((w109.setCell ⟨gb291, 0, none⟩ (.int .u8 t285)).setCell ⟨gb291, 1, none⟩ (.int .u16 t286)).setCell ⟨gb291, 2, none⟩ (.int .u32 t287)).setCell ⟨gb291, 3, none⟩ (.int .u32 t288)).setCell ⟨gb291, 4, none⟩ (.string t289))) := ⟨bel_⟩
                              (try clear HO_9)
                              (try clear HO_40)
                              (try clear HO279)
                              (try clear HO282)
                              (try clear BK270)
                              (try clear BK291)
                              (try clear HB)
                              generalize (((((w109.setCell ⟨gb291, 0, none⟩ (.int .u8 t285)).setCell ⟨gb291, 1, none⟩ (.int .u16 t286)).setCell ⟨gb291, 2, none⟩ (.int .u32 t287)).setCell ⟨gb291, 3, none⟩ (.int .u32 t288)).setCell ⟨gb291, 4, none⟩ (.string t289)) = w112 at n0_ n1_ n2_ n3_ n4_ n5_ n6_ ⊢
                              have HO_9 := n0_
                              have HO_40 := n1_
                              have HO279 := n2_
                              have HO282 := n3_
                              have BK270 := n4_
                              have BK291 := n5_
                              have HB := n6_
                              clear n0_ n1_ n2_ n3_ n4_ n5_ n6_
                              replace HO_9 := Aside0.mk (Kd.R_drew HO_9.out)
                              replace HO_40 := Aside0.mk (Kd.R_drew HO_40.out)
                              replace HO279 := Aside0.mk (Kd.R_drew HO279.out)
                              replace HO282 := Aside0.mk (Kd.R_drew HO282.out)
                              replace BK270 := Aside0.mk (blk_drew BK270.out)
                              replace BK291 := Aside0.mk (blk_drew BK291.out)
                              replace HB := Aside0.mk (below_drew1 HB.out)
                              refine start_ (n := 34) (S := fun w' => w'.cell? ⟨gb270, 0, none⟩ = some (.string ((rd_T34 t251 x42_2).f0)) ∧ w'.cell? ⟨gb270, 1, none⟩ = some (.int .u32 ((rd_T34 t251 x42_2).f1)) ∧ w'.cell? ⟨gb270, 2, none⟩ = some (.int .u8 ((rd_T34 t251 x42_2).f2)) ∧ w'.cell? ⟨gb291, 0, none⟩ = some (.int .u8 t285) ∧ w'.cell? ⟨gb291, 1, none⟩ = some (.int .u16 t286) ∧ w'.cell? ⟨gb291, 2, none⟩ = some (.int .u32 t287) ∧ w'.cell? ⟨gb291, 3, none⟩ = some (.int .u32 t288) ∧ w'.cell? ⟨gb291, 4, none⟩ = some (.string t289)) (ds := []) #[false, false, false, false, false, false, false, false, false, false, false, false, false, false, false, false, false, false, false, false, false, false, false, false, false, false, false, false, false, false, false, false, false, false] (by kernel_rfl) rfl rfl hc_ (fun hHeld => ?_); refine with_tabW cambiumlaw14_DirsFound.tab13 cambiumlaw14_DirsFound.bits13 (fun HT_ HW_ => ?_)
                              generalize w112.drew = w113 at HO_9 HO_40 HO279 HO282 BK270 BK291 HB hHeld ⊢
                              refine pu_ 0 65 ?_
                              refine pu_ 1 66 ?_
                              refine pu_ 2 67 ?_
                              refine pu_ 3 68 ?_
                              refine pu_ 4 69 ?_
                              refine tk8_ 5 70 ?_
                              refine pu_ 6 71 ?_
                              refine pu_ 7 72 ?_
                              refine pu_ 8 73 ?_
                              refine pu_ 9 74 ?_
                              refine pu_ 10 75 ?_
                              refine pu_ 11 76 ?_
                              refine pu_ 12 77 ?_
                              refine pu_ 13 78 ?_
                              refine pu_ 15 80 ?_
                              refine tk8_ 14 79 ?_
                              refine tk8_ 16 81 ?_
                              refine pu_ 17 82 ?_
                              refine pu_ 18 83 ?_
                              refine pu_ 19 84 ?_
                              refine pu_ 20 85 ?_
                              refine pu_ 21 86 ?_
                              refine pu_ 22 87 ?_
                              refine un_ 23 88 ?_
                              refine un_ 24 89 ?_
                              refine un_ 25 90 ?_
                              refine un_ 26 91 ?_
                              refine un_ 27 92 ?_
                              refine un_ 28 93 ?_
                              refine un_ 29 94 ?_
                              refine un_ 30 95 ?_
                              refine un_ 31 96 ?_
                              refine pu_ 32 97 ?_
                              refine pu_ 33 98 ?_
                              refine done_ (done_of HT_.out (by kernel_rfl)) ?_
                              obtain ⟨hcz114_0, hcz114_1, hcz114_2⟩ := cl3_ BK270
                              obtain ⟨hfz114_0, hfz114_1, hfz114_2⟩ := fz3_ BK270
                              try go_wp2
                              go_roundg k2
                              case measure => have := HJ7.out; have := HK2.out; omega
                              case rel => exact ⟨((((rd_T34 t251 x42_2).f0).toList == a2.toList)), (wrap64 (x42_2 + 1)), (by first | rfl | (simp; done) | (simp [*]; done)), (by first | rfl | (simp; done) | (simp [*]; done)), H', ⟨by have := HJ7.out; have := HK2.out; omega⟩, ⟨by (with_reducible repeat (first | apply Kd.R_alloc | apply Kd.R_drewN | apply Kd.R_drew)); exact Kd.R_mono HO_9.out (fun _ hk => trivial)⟩, ⟨by (with_reducible repeat (first | apply Kd.R_alloc | apply Kd.R_drewN | apply Kd.R_drew)); exact Kd.R_mono HO_40.out (fun _ hk => trivial)⟩, ⟨bel_⟩⟩
                            rw [if_neg c25] at H
                            have c25b0 : (t285 == ((rd_T34 t251 x42_2).f2)) = false := beq_eq_false_iff_ne.mpr c25
                            have c25b1 : (t285 != ((rd_T34 t251 x42_2).f2)) = true := bne_iff_ne.mpr c25
                            exact absurd ((Option.some.inj H).trans HT_.out) (by simp)
                          rw [if_neg c24] at H
                          have c24b0 : (t290 == 0) = false := beq_eq_false_iff_ne.mpr c24
                          have c24b1 : (t290 != 0) = true := bne_iff_ne.mpr c24
                          exact absurd ((Option.some.inj H).trans HT_.out) (by simp)
                        rw [if_neg c23] at H
                        have c23b0 : (t283 == ((rd_T34 t251 x42_2).f1)) = false := beq_eq_false_iff_ne.mpr c23
                        have c23b1 : (t283 != ((rd_T34 t251 x42_2).f1)) = true := bne_iff_ne.mpr c23
                        exact absurd ((Option.some.inj H).trans HT_.out) (by simp)
                      rw [if_neg c22] at H
                      have c22b0 : (t284 == 0) = false := beq_eq_false_iff_ne.mpr c22
                      have c22b1 : (t284 != 0) = true := bne_iff_ne.mpr c22
                      exact absurd ((Option.some.inj H).trans HT_.out) (by simp)
                    rw [if_neg c19] at H
                    exact absurd H (by simp)
                  rw [if_neg c18] at H
                  exact absurd H (by simp)
                rw [if_neg c17] at H
                exact absurd H (by simp)
              rw [if_neg c16] at H
              exact absurd H (by simp)
            rw [if_neg c15] at H
            have c15b0 : decide (x42_2 < (t251.length : Int)) = false := decide_eq_false c15
            clear c15
            obtain ⟨y255, hy255⟩ : ∃ y_ : List ByteArray, y_ = (([] : List ByteArray)) := ⟨_, rfl⟩
            replace H : (if y255.length + l1.length < 8796093022208 then ((some (y255 ++ l1 : List ByteArray)).bind fun y258 => ((some (([a2] : List ByteArray) : List ByteArray)).bind fun y261 => (if y258.length + y261.length < 8796093022208 then ((dirs_Walk.f k2 l0 (y258 ++ y261) false).bind fun bt267 => (some (x11_2 == (bt267.2 == 0)))) else (none)))) else (none)) = some r := by first | (rw [hy255]; with_reducible exact H) | (have H2_ := (Option.bind_some _ _).symm.trans H; rw [hy255]; with_reducible exact H2_) | (have H2_ := (Option.bind_some _ _).symm.trans H; with_reducible exact H2_) | with_reducible exact H | (rw [hy255]; exact H) | exact H
            have Ny255 := Aside0.mk hy255
            clear hy255
            by_cases c115 : y255.length + l1.length < 8796093022208
            · rw [if_pos c115] at H
              have LMc115 := Aside0.mk c115
              clear c115
              obtain ⟨y258, hy258⟩ : ∃ y_ : List ByteArray, y_ = (y255 ++ l1) := ⟨_, rfl⟩
              replace H : ((some (([a2] : List ByteArray) : List ByteArray)).bind fun y261 => (if y258.length + y261.length < 8796093022208 then ((dirs_Walk.f k2 l0 (y258 ++ y261) false).bind fun bt267 => (some (x11_2 == (bt267.2 == 0)))) else (none))) = some r := by first | (rw [hy258]; with_reducible exact H) | (have H2_ := (Option.bind_some _ _).symm.trans H; rw [hy258]; with_reducible exact H2_) | (have H2_ := (Option.bind_some _ _).symm.trans H; with_reducible exact H2_) | with_reducible exact H | (rw [hy258]; exact H) | exact H
              have Ny258 := Aside0.mk hy258
              clear hy258
              obtain ⟨y261, hy261⟩ : ∃ y_ : List ByteArray, y_ = (([a2] : List ByteArray)) := ⟨_, rfl⟩
              replace H : (if y258.length + y261.length < 8796093022208 then ((dirs_Walk.f k2 l0 (y258 ++ y261) false).bind fun bt267 => (some (x11_2 == (bt267.2 == 0)))) else (none)) = some r := by first | (rw [hy261]; with_reducible exact H) | (have H2_ := (Option.bind_some _ _).symm.trans H; rw [hy261]; with_reducible exact H2_) | (have H2_ := (Option.bind_some _ _).symm.trans H; with_reducible exact H2_) | with_reducible exact H | (rw [hy261]; exact H) | exact H
              have Ny261 := Aside0.mk hy261
              clear hy261
              by_cases c116 : y258.length + y261.length < 8796093022208
              · rw [if_pos c116] at H
                have LMc116 := Aside0.mk c116
                clear c116
                obtain ⟨y264, hy264⟩ : ∃ y_ : List ByteArray, y_ = (y258 ++ y261) := ⟨_, rfl⟩
                replace H : ((dirs_Walk.f k2 l0 y264 false).bind fun bt267 => (some (x11_2 == (bt267.2 == 0)))) = some r := by first | (rw [hy264]; with_reducible exact H) | (have H2_ := (Option.bind_some _ _).symm.trans H; rw [hy264]; with_reducible exact H2_) | (have H2_ := (Option.bind_some _ _).symm.trans H; with_reducible exact H2_) | with_reducible exact H | (rw [hy264]; exact H) | exact H
                have Ny264 := Aside0.mk hy264
                clear hy264
                replace H := Option.bind_eq_some_iff.mp H
                obtain ⟨⟨t267, t268⟩, A1170, H⟩ := H
                replace H : (some (x11_2 == (t268 == 0))) = some r := H
                have A117 := Aside0.mk A1170
                clear A1170
                obtain rfl := Option.some.inj H
                go_wp2_with (first | ((with_reducible refine gate_dst (N := 109) rfl ?_); refine Kd.R_lit Kd.string _ 9 ?hg (N := 109) ?hd (xs := ([] : List ByteArray)) (inner := []) (ok := fun _ => True) (okp := fun _ => True) ?hr ?hp (fun _ hk => hk) trivial (Below.refl _ _) (Nat.le_refl _) (by simp) ?_; (case hd => rfl); (case hg => rfl); (case hr => first | (go_simp; done) | (go_simp; rfl)); (case hp => exact (Reps.none _ _)); intro v256 w118 ho119 hb hg_ hnew_; clear hg_ hnew_; (first | rw [← Ny255.out] at ho119 | (simp only [Int.reduceToNat] at ho119; rw [← Ny255.out] at ho119)); have HO257 := rl_ ho119; replace HO_9 := rb_ HO_9 hb; replace HO_40 := rb_ HO_40 hb; replace HB := hb_ hb; clear hb ho119) | ((with_reducible refine gate_builtin (b := .append) (xs := #[.tmp 109, .tmp 110]) rfl ?_); at_builtin; refine Kd.R_append_rows Kd.string (w0 := w) w.heap.size rfl (.tmp 109) (.tmp 110) 23 9 (.string ⟨#[]⟩) 16 rfl Try.underlying23 info9 rfl (by decide) (by omega) v256 y255 l1 _ _ _ (fun _ => True) (fun _ => False) rfl rfl ?aO ?aR (fun _ _ h => h) (fun _ h => h.elim) ?aF ?aB ?aS ?aL ?_; (case aR => repeat (first | exact (Kd.C_below HR1.out HB.out) | (with_reducible refine Kd.C_alloc ?_ _) | (with_reducible refine Kd.C_drewN ?_ _) | (with_reducible refine Kd.C_drew ?_))); (case aB => exact bel_); (case aF => exact (fun _ _ => trivial)); (case aO => exact (ra_ HO257)); (case aS => exact (below_size bel_)); (case aL => have := LMc115.out; omega); intro v259 w120 ho hb hg hat; rw [← Ny258.out] at ho; have HO260 := Aside0.mk (ho); replace HO_9 := Aside0.mk (Kd.R_over' (ra_ HO_9) (Kd.R_typed (ra_ HO257)) (by decide) hg); replace HO_40 := Aside0.mk (Kd.R_over' (ra_ HO_40) (Kd.R_typed (ra_ HO257)) (by decide) hg); replace HB := Aside0.mk (hb); clear HO257; clear ho hb hg hat) | ((with_reducible refine gate_dst (N := 113) rfl ?_); refine Kd.R_lit Kd.string _ 9 ?hg (N := 113) ?hd (xs := ([a2] : List ByteArray)) (inner := [.string a2]) (ok := fun _ => True) (okp := fun _ => True) ?hr ?hp (fun _ hk => hk) trivial (Below.refl _ _) (Nat.le_refl _) (by simp) ?_; (case hd => rfl); (case hg => rfl); (case hr => first | (go_simp; done) | (go_simp; rfl)); (case hp => exact (Reps.one (show Kd.M Kd.string _ _ _ a2 [.string a2] from rfl) (Reps.none _ _))); intro v262 w121 ho122 hb hg_ hnew_; clear hg_ hnew_; (first | rw [← Ny261.out] at ho122 | (simp only [Int.reduceToNat] at ho122; rw [← Ny261.out] at ho122)); have HO263 := Aside0.mk (Kd.R_lower (Kd.R_new' ho122 (Kd.R_lt (ra_ HO260))) (below_size bel_)); replace HO_9 := rb_ HO_9 hb; replace HO_40 := rb_ HO_40 hb; replace HO260 := Aside0.mk (Kd.R_elder' (ra_ HO260) (Kd.R_base ho122) hb); replace HB := hb_ hb; clear hb ho122; obtain ⟨Ao124, co124, eo124⟩ := Kd.R_slice HO263.out; subst eo124) | ((with_reducible refine gate_builtin (b := .append) (xs := #[.tmp 111, .tmp 113]) rfl ?_); at_builtin; refine Kd.R_append_rows Kd.string (w0 := w) w.heap.size rfl (.tmp 111) (.tmp 113) 23 9 (.string ⟨#[]⟩) 16 rfl Try.underlying23 info9 rfl (by decide) (by omega) v259 y258 y261 _ _ _ (fun k_ => some k_ ≠ (.slice Ao124 y261.length co124 : Value).ownBlock) (fun _ => False) rfl rfl ?aO ?aR (fun _ _ h => h) (fun _ h => h.elim) ?aF ?aB ?aS ?aL ?_; (case aR => exact cr_ HO263); (case aB => exact bel_); (case aF => exact (fun k_ hk => Kd.fresh' (Kd.R_lt (ra_ HO263)) k_ hk)); (case aO => exact (by (with_reducible repeat (first | apply Kd.R_alloc | apply Kd.R_drewN | apply Kd.R_drew)); exact Kd.R_mono HO260.out (fun _ hk => hk.2))); (case aS => exact (below_size bel_)); (case aL => have := LMc116.out; omega); intro v265 w123 ho hb hg hat; rw [← Ny264.out] at ho; have HO266 := Aside0.mk (ho); replace HO_9 := Aside0.mk (Kd.R_over' (ra_ HO_9) (Kd.R_typed (ra_ HO260)) (by decide) hg); replace HO_40 := Aside0.mk (Kd.R_over' (ra_ HO_40) (Kd.R_typed (ra_ HO260)) (by decide) hg); replace HO263 := Aside0.mk (Kd.R_after (ok := (fun _ => True)) (ra_ HO263) hg hat); replace HB := Aside0.mk (hb); clear HO260; clear ho hb hg hat; obtain ⟨Ao125, co125, eo125⟩ := Kd.R_slice HO266.out; subst eo125) | ((with_reducible refine gate_callee (f := 8) rfl ?_); refine gl_ (some 115) Try.func8 #[.slice A0 l0.length c0, .slice Ao125 y264.length co125, .bool false] ?_; (with_reducible refine (dirs_Walk.calls k2 _ _ l0 _ _ y264 false t267 t268 _ ?side1 ?side2 ?side3 ?side4 A117.out).mono ?_); (case side1 => exact cb_ HR0); (case side2 => exact HC0.out); (case side3 => exact cr_ HO266); (case side4 => exact (Kd.R_reads' HO266.out).2.1); rintro e w126 ⟨rfl, hb⟩; refine ⟨_, rfl, ?_⟩; replace HO_9 := rb_ HO_9 hb; replace HO_40 := rb_ HO_40 hb; replace HO263 := rb_ HO263 hb; replace HO266 := rb_ HO266 hb; replace HB := hb_ hb; (try clear hb); (try clear hb2); (try clear hk); (try clear hi)))
                go_ret
                exact ⟨by first | rfl | (simp [errW_none, errW_some] <;> rfl) | (simp [*, errW_none, errW_some] <;> rfl), bel_⟩
              rw [if_neg c116] at H
              exact absurd H (by simp)
            rw [if_neg c115] at H
            exact absurd H (by simp)
  replace c5 := Bool.eq_false_iff.mpr c5
  subst c5
  have H1 : (some false) = some r := by rw [if_neg (show ¬ (false = true) by decide)] at H; exact H
  clear H
  have H := H1
  clear H1
  exact absurd ((Option.some.inj H).trans HT_.out) (by simp)

end Go.Proofs.Ytpnmajblhgnkoaa.Z
end

section
/- DirsFound, over lists: the law's function answers true. -/
namespace Go.Proofs.Ytpnmajblhgnkoaa.Pure
open Go.RowKit Go.Proofs.Ytpnmajblhgnkoaa Go.Proofs.Ytpnmajblhgnkoaa.Z Go.Proofs.YtpnmajblhgnkoaaW.PrintWords Go.Proofs.Ytpnmajblhgnkoaa.PM
set_option linter.unusedVariables false
set_option linter.unusedSimpArgs false
set_option maxHeartbeats 1600000 in
theorem found_l0 {l : List It} {s : VS} (hf : Fit l) (hl : l.length ≤ 4398046511103) (hs : lookS l = some s) (ns : List ByteArray) (hn : ns.length ≤ 8796093022000) (other : ByteArray) (a : Int) (ha : 0 ≤ a ∧ a < 4294967296) (hd : s.kd a = 1)
    (hw : walkS l s true 8 ns 1 = (a, 0)) : ∀ d i : Nat, (listS s a).length = i + d →
    Ev (fun k => cambiumlaw14_DirsFound.l0 k l ns other (listS s a) (((listS s a).take i).any (fun e => e.f0.toList == other.toList)) (listS s a) ((listS s a).length : Int) (i : Int)) true := by
  have hr := look_rt hs
  have walkF : ∀ nm : ByteArray, Ev (fun k => dirs_Walk.f k l (([] ++ ns) ++ [nm]) false) (if entryS l a nm = 0 then (0, 5) else (entryS l a nm, 0)) := fun nm => by
    refine Ev.val (Walk_f hf hl _ (by rw [List.nil_append, List.length_append, List.length_singleton]; omega) false) ?_
    unfold walkR
    rw [hs, List.nil_append]
    exact walk_more l s nm a hd 8 ns 1 hw
  have hlen : (listS s a).length ≤ 4398046511103 := by
    unfold listS
    rw [List.length_map]
    refine Nat.le_trans (List.length_filter_le ..) ?_
    rw [hr.inv.all, List.length_map]; exact hl
  have hmem := fun e he => list_mem hr (a := a) (e := e) he
  have hasc := List.pairwise_iff_getElem.1 (list_asc hr a)
  have hhas := fun nm => list_has hr ha (nm := nm)
  generalize listS s a = L at hlen hmem hasc hhas ⊢
  intro d
  induction d with
  | zero =>
    intro i hi
    refine Ev.step (fun k => by rw [cambiumlaw14_DirsFound.l0]) ?_
    refine Ev.ifn (by omega) ?_
    refine Ev.bindc rfl (Ev.ifp (by rw [List.length_nil]; omega) (Ev.bindc rfl (Ev.bindc rfl (Ev.ifp (by rw [List.nil_append, List.length_singleton]; omega) ?_))))
    refine Ev.bind (walkF other) (Ev.const ?_)
    rw [List.take_of_length_le (by omega)]
    by_cases h0 : entryS l a other = 0
    · rw [if_pos h0]
      have : L.any (fun e => e.f0.toList == other.toList) = false := by
        rw [List.any_eq_false]
        intro e he hq
        have := hmem e he
        rw [bytes_inj (eq_of_beq hq), h0] at this
        exact this.2.1 this.1.symm
      rw [this]; rfl
    · rw [if_neg h0]
      obtain ⟨e, he, hq⟩ := hhas other h0
      have : L.any (fun e => e.f0.toList == other.toList) = true := by
        rw [List.any_eq_true]
        exact ⟨e, he, by rw [hq]; exact beq_self_eq_true _⟩
      rw [this]; rfl
  | succ d ih =>
    intro i hi
    have hlt : i < L.length := by omega
    have hE := hmem L[i] (List.getElem_mem hlt)
    have ihh := ih (i + 1) (by omega)
    rw [show L.take (i + 1) = L.take i ++ [L[i]] by rw [List.take_append_getElem], List.any_append] at ihh
    simp only [List.any_cons, List.any_nil, Bool.or_false] at ihh
    refine Ev.step (fun k => by rw [cambiumlaw14_DirsFound.l0]) ?_
    rw [rd_ent L i hlt]
    refine Ev.ifp (by omega) (Ev.ifp (by omega) (Ev.ifp (by omega) ?_))
    refine Ev.bindc rfl (Ev.ifp (by rw [List.length_nil]; omega) (Ev.bindc rfl (Ev.bindc rfl (Ev.ifp (by rw [List.nil_append, List.length_singleton]; omega) ?_))))
    refine Ev.bind (walkF L[i].f0) ?_
    rw [hE.1, if_neg hE.2.1]
    refine Ev.bind (get_f hf hl hs hE.2.2.1) ?_
    refine Ev.ifp rfl (Ev.ifp rfl (Ev.ifp rfl (Ev.ifp hE.2.2.2.symm ?_)))
    have hnext : wrap64 ((i : Int) + 1) = ((i + 1 : Nat) : Int) := by rw [w64 (by omega) (by omega)]; omega
    rw [hnext]
    have fin : Ev (fun k => if ((L.take i).any (fun e => e.f0.toList == other.toList)) = true then cambiumlaw14_DirsFound.l0 k l ns other L true L (L.length : Int) ((i + 1 : Nat) : Int) else cambiumlaw14_DirsFound.l0 k l ns other L (L[i].f0.toList == other.toList) L (L.length : Int) ((i + 1 : Nat) : Int)) true := by
      refine Ev.ite (fun h => ?_) (fun h => ?_)
      · rw [h, Bool.true_or] at ihh; exact ihh
      · rw [(Bool.not_eq_true _).mp h, Bool.false_or] at ihh; exact ihh
    refine Ev.ite (fun h => ?_) (fun h => fin)
    have hp : wrap64 ((i : Int) - 1) = ((i - 1 : Nat) : Int) := by
      clear fin ihh ih hasc hhas hmem hE walkF
      rw [w64 (i := (i : Int) - 1) (by omega) (by omega)]; omega
    have hb : i - 1 < L.length := Nat.lt_of_le_of_lt (Nat.sub_le ..) hlt
    have hpos : 0 < i := Int.natCast_pos.1 h
    have hlt2 := hasc (i - 1) i hb hlt (Nat.sub_lt hpos Nat.one_pos)
    rw [hp, rd_ent L (i - 1) hb]
    refine Ev.ifp (Int.natCast_nonneg _) ?_
    refine Ev.ifp (Int.ofNat_lt.2 hb) ?_
    refine Ev.ifp hlt2 ?_
    exact fin
theorem DirsFound : ∀ (l0 : List (S61)) (l1 : List ByteArray) (a2 : ByteArray), l0.length ≤ maxLen → (∀ x ∈ l0, Z.G61 x) → l0.length * 32 ≤ 140737488351232 → l1.length ≤ maxLen → (∀ x ∈ l1, (fun s : ByteArray => s.size ≤ maxLen) x) → l1.length * 16 ≤ 140737488351232 → a2.size ≤ 140737488351232 → ∃ k, Z.cambiumlaw14_DirsFound.f k l0 l1 a2 = some true := by
  intro l ns other _ hf hl _ _ hn _
  have hf : Fit l := hf
  refine Ev.rounds ?_
  unfold cambiumlaw14_DirsFound.f
  refine Ev.bind lives_f (Ev.ifp rfl ?_)
  have hat := walkR_range l true ns
  refine Ev.bind (Walk_f hf (by omega) ns (by omega) true) ?_
  refine Ev.bind (List_f hf (by omega) hat) ?_
  have out : ∀ L, Ev (fun k => cambiumlaw14_DirsFound.j0 k l ns other L true) true := fun L => Ev.step (fun k => by rw [cambiumlaw14_DirsFound.j0]) (Ev.ifp rfl (Ev.const rfl))
  refine Ev.ite (fun hz => ?_) (fun _ => out _)
  unfold walkR at hz hat ⊢
  cases hs : lookS l with
  | none => rw [hs] at hz; exact absurd hz (show ¬ (9 : Int) = 0 by decide)
  | some s =>
    rw [hs] at hz hat
    simp only [] at hz hat ⊢
    have hr := look_rt hs
    have hi := walk_is hr true 8 ns 1 hr.root1 hz
    have hw : walkS l s true 8 ns 1 = ((walkS l s true 8 ns 1).1, 0) := Prod.ext rfl hz
    generalize (walkS l s true 8 ns 1).1 = a at hat hi hw ⊢
    obtain ⟨m, hm⟩ := Option.isSome_iff_exists.1 hi
    by_cases hk : m.kd = 1
    · have hd : s.kd a = 1 := by unfold VS.kd; rw [hm]; exact hk
      have e : listR (some s) a = (listS s a, 0) := by unfold listR; simp only [hm]; rw [if_pos hk]
      rw [e]
      refine Ev.step (fun k => by rw [cambiumlaw14_DirsFound.j0]) (Ev.ifn (show ¬ ((0 : Int) != 0) = true by decide) ?_)
      have := found_l0 hf (by omega) hs ns (by omega) other a hat hd hw (listS s a).length 0 (by omega)
      rw [List.take_zero] at this
      exact this
    · have e : listR (some s) a = ([], 12) := by unfold listR; simp only [hm]; rw [if_neg hk]
      rw [e]
      exact out _
end Go.Proofs.Ytpnmajblhgnkoaa.Pure
end

section
/- cambium/cambiumlaw14.DirsFound: at every input the law's function returns true, and each argument reads afterwards as before. Conditions: none beyond the row's own. Printed by a program of this session (mp.py) over the pure statement in YtpnmajblhgnkoaaPureDirsFound. -/
namespace Go.Proofs.Ytpnmajblhgnkoaa.dirsFound
open Go.ChangeShapes Go.WideShapes Go.ChangeAt Go.RowKit
open Go.ChangeMaps (open_string shut_string)
set_option linter.unusedVariables false
set_option linter.unusedSimpArgs false
theorem own : ownKnob Try.prog.godebug = none := by kernel_rfl
theorem laidOut : laidOutB Try.prog = true := by kernel_rfl
set_option maxHeartbeats 1000000 in
set_option maxRecDepth 100000 in
theorem lifted (os : Os) (started : os.Started) (H : Type) (enc : TypeId × Value → H) :
    ReturnsInHanded {} Try.checked os 3 .any (Rows.dirsFoundSpec.pre6 enc Try.prog Try.f3 Rows.dirsFoundRow.domain false) (Rows.dirsFoundSpec.post enc Try.prog Try.f3 false true false false) := by
  refine returnsInHanded_of_change_sized (C := Try.checked) own started (by kernel_rfl) Try.func3
    (ChangeSpec.witness6 (enc := enc) (C := Try.checked) false ⟨#[], #[.slice none 0 0, .slice none 0 0, .string ByteArray.empty], []⟩ 8 (by kernel_rfl) (by kernel_rfl) (by kernel_rfl) (by kernel_rfl)) ?_
  intro W base args ds gs before hval0 hW hcnd hwz_ _
  have hsz : (DataW.weightsEach Try.prog (Try.f3.params.toList ++ Rows.dirsFoundSpec.plain.varTypes Try.prog) (ds ++ gs)).all (· ≤ reachBytes) = true := hwz_
  have hval : ∀ (j : Nat) t v, Try.f3.params[j]? = some t → args[j]? = some v → Value.okWide Try.prog W .any base t v := hval0
  have hW' := hW
  obtain ⟨p, q, hA0, hV, rfl, hfz, hnd⟩ := hW
  have hA : DataW.TrodAll enc Try.prog W 0 (fun _ => true) true Try.f3.params.toList args.toList ds p := hA0
  rw [Try.params3] at hA hval hsz
  obtain ⟨v0, vs0, d0, ds0, p0, q0, hargs, rfl, rfl, h0, r0⟩ := trodAll_cons hA
  obtain ⟨v1, vs1, d1, ds1, p1, q1, rfl, rfl, rfl, h1, r1⟩ := trodAll_cons r0
  obtain ⟨v2, vs2, d2, ds2, p2, q2, rfl, rfl, rfl, h2, r2⟩ := trodAll_cons r1
  obtain ⟨rfl, rfl, rfl⟩ := trodAll_nil r2
  obtain rfl : args = #[v0, v1, v2] := by cases args; simp_all
  obtain ⟨rfl, rfl⟩ := trodVars_none hV
  have k0 := h0
  have lt0 : ∀ x ∈ p0, x.block < W.heap.size := by obtain ⟨m, hm⟩ := k0; exact DataW.trod_lt m _ _ _ hm
  obtain ⟨a0, len0, cap0, rfl⟩ := okWide_slice Try.underlying22 (hval 0 22 v0 rfl rfl)
  obtain ⟨fuel0, hf0⟩ := h0
  obtain ⟨A0, c0, l0, hcs0, hlc0, hcm0, hC0, hG0, hB0, hx0⟩ := Z.Opens.row Try.underlying22 Z.opens61 (of_decide_eq_true (by kernel_rfl)) hf0
  simp only [Value.cells, List.cons.injEq, Value.slice.injEq, and_true] at hcs0
  obtain ⟨rfl, rfl, rfl⟩ := hcs0
  have hlm0 : l0.length ≤ maxLen := Nat.le_trans hlc0 hcm0
  have hsz0 : l0.length * 32 ≤ 140737488351232 := Z.sized_row hsz (j := 0) (t := 22) rfl rfl Try.underlying22 (by kernel_rfl) hx0
  have k1 := h1
  have lt1 : ∀ x ∈ p1, x.block < W.heap.size := by obtain ⟨m, hm⟩ := k1; exact DataW.trod_lt m _ _ _ hm
  obtain ⟨a1, len1, cap1, rfl⟩ := okWide_slice Try.underlying23 (hval 1 23 v1 rfl rfl)
  obtain ⟨fuel1, hf1⟩ := h1
  obtain ⟨A1, c1, l1, hcs1, hlc1, hcm1, hC1, hG1, hB1, hx1⟩ := Z.Opens.row Try.underlying23 (Z.Opens.string Try.underlying9 (by kernel_rfl)) (of_decide_eq_true (by kernel_rfl)) hf1
  simp only [Value.cells, List.cons.injEq, Value.slice.injEq, and_true] at hcs1
  obtain ⟨rfl, rfl, rfl⟩ := hcs1
  have hlm1 : l1.length ≤ maxLen := Nat.le_trans hlc1 hcm1
  have hsz1 : l1.length * 16 ≤ 140737488351232 := Z.sized_row hsz (j := 1) (t := 23) rfl rfl Try.underlying23 (by kernel_rfl) hx1
  have k2 := h2
  have lt2 : ∀ x ∈ p2, x.block < W.heap.size := by obtain ⟨m, hm⟩ := k2; exact DataW.trod_lt m _ _ _ hm
  obtain ⟨a2, rfl, rfl, rfl, y2⟩ := open_string Try.underlying9 (hval 2 9 v2 rfl rfl) h2
  have w2 : a2.size ≤ 140737488351232 := by
    have z := sized_string hsz (j := 2) (t := 9) rfl rfl
    rw [Array.length_toList] at z
    exact z
  have hP := Pure.DirsFound l0 l1 a2 hlm0 hG0 hsz0 hlm1 hG1 hsz1 w2
  obtain ⟨k, hk⟩ := hP
  refine (Z.cambiumlaw14_DirsFound.calls k _ _ l0 _ _ l1 a2 true W hC0 hlc0 hC1 hlc1 hk).mono fun e W' ⟨he, bel0⟩ => ?_
  have bel : Below W.heap.size W W' := bel0
  subst he
  exact ⟨_, rfl, _, _, _, [], _, [], hW', trodAll_mk1 (shut_bool Try.underlying4 _), (trodAll_cons_mk (Below.trod laidOut (by kernel_rfl) (of_decide_eq_true (by kernel_rfl)) k0 bel lt0) (trodAll_cons_mk (Below.trod laidOut (by kernel_rfl) (of_decide_eq_true (by kernel_rfl)) k1 bel lt1) (trodAll_cons_mk (Below.trod laidOut (by kernel_rfl) (of_decide_eq_true (by kernel_rfl)) k2 bel lt2) trodAll_mk0))), rfl, bel.frame _, fun h => by cases h⟩
theorem over : Rows.dirsFoundRow.holds Try.pinned (OpenSpec.ofChange Rows.dirsFoundSpec) :=
  OpenClaim.holds_of_wide 3 Try.f3 rfl rfl rfl rfl rfl rfl rfl ⟨rfl, rfl, rfl, rfl, rfl⟩ rfl rfl rfl rfl rfl (by kernel_rfl) Try.func3 (by kernel_rfl)
    (of_decide_eq_true (by kernel_rfl)) (by unfold Func.isWrapper; first | (rw [if_pos (by decide +kernel)]; kernel_rfl) | (rw [if_neg (by decide +kernel)]; exact ⟨rfl, rfl⟩))
    (fun os started H enc _ => lifted os started H enc)
end Go.Proofs.Ytpnmajblhgnkoaa.dirsFound
namespace Go.Proofs.Ytpnmajblhgnkoaa
theorem dirsFound_holds : Rows.DirsFoundSaid := dirsFound.over
#print axioms dirsFound_holds
end Go.Proofs.Ytpnmajblhgnkoaa
end
