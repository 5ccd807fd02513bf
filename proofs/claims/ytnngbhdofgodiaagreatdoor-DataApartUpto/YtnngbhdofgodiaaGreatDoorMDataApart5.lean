/- DataApartUpto: at every input the law's function returns true and leaves its arguments as they were; condition: the arguments are of bulk at most 1048576. Part 5 of 5: this session's own texts, laid together. -/
import Derived.Test.YtnngbhdofgodiaaGreatDoorMB1
import Derived.Test.YtnngbhdofgodiaaGreatDoorMB2
import Derived.Test.YtnngbhdofgodiaaGreatDoorMB4
import Derived.Test.YtnngbhdofgodiaaGreatDoorMB3
import Derived.Test.YtnngbhdofgodiaaGreatDoorCards
import Derived.Test.YtnngbhdofgodiaaGreatDoorTie
import Derived.Deep.DeepHandedRow
import Derived.WalkKit
import Derived.ProofKit
import Derived.OpenShut
import Derived.ShutString
import Derived.ChangeOld
import Derived.Below
import Derived.SizedLaws
import Derived.Carry
import Derived.JoinedCond
import Derived.Deep.CondSized
section
-- Printed by a program of this session (mp.py) out of the translation.
namespace Go.Proofs.YtnngbhdofgodiaaGreatDoor.Z
open Go.RowKit Go.Proofs.YtnngbhdofgodiaaGreatDoorW.PrintWords Go.Proofs.YtnngbhdofgodiaaGreatDoorW.PrintLast Go.Proofs.YtnngbhdofgodiaaGreatDoorW.PrintMore
attribute [local go_sem] max2_int min2_int max_two min_two max_three min_three max_four min_four   -- for this text's walks alone
set_option linter.unusedVariables false
set_option linter.unusedSimpArgs false

/-! ### cambiumlaw13_DataApart: function 6 -/
mutual
def cambiumlaw13_DataApart.j0 : Nat → List (S54) → Int → Int → Int → ByteArray → ByteArray → Bool → Option (Bool)
  | 0, _, _, _, _, _, _, _ => none
  | k + 1, x0, x1, x2, x3, x4, x5, x50 => if x50 = true then (some true) else ((data_Write.f k x0 x1 x2 x4).bind fun bt308 => ((item_Apply.f k x0 bt308.1).bind fun bt312 => ((data_Write.f k bt312.1 x1 x3 x5).bind fun bt316 => ((item_Apply.f k bt312.1 bt316.1).bind fun bt320 => (if bt308.2 = 0 then (if bt312.2 = 0 then (if bt316.2 = 0 then (cambiumlaw13_DataApart.j1 k x0 x1 x2 x3 x4 x5 bt308.2 bt320.1 (bt320.2 != 0)) else (cambiumlaw13_DataApart.j1 k x0 x1 x2 x3 x4 x5 bt308.2 bt320.1 true)) else (cambiumlaw13_DataApart.j1 k x0 x1 x2 x3 x4 x5 bt308.2 bt320.1 true)) else (cambiumlaw13_DataApart.j1 k x0 x1 x2 x3 x4 x5 bt308.2 bt320.1 true))))))
def cambiumlaw13_DataApart.j1 : Nat → List (S54) → Int → Int → Int → ByteArray → ByteArray → Int → List (S54) → Bool → Option (Bool)
  | 0, _, _, _, _, _, _, _, _, _ => none
  | k + 1, x0, x1, x2, x3, x4, x5, x14, x19, x92 => if x92 = true then (some (x14 != 0)) else ((data_Write.f k x0 x1 x3 x5).bind fun bt324 => ((item_Apply.f k x0 bt324.1).bind fun bt328 => ((data_Write.f k bt328.1 x1 x2 x4).bind fun bt332 => ((item_Apply.f k bt328.1 bt332.1).bind fun bt336 => (if bt324.2 = 0 then (if bt328.2 = 0 then (if bt332.2 = 0 then (if bt336.2 = 0 then ((cambiumref04_Same.f k x19 bt336.1).bind fun t340 => (some t340)) else (some false)) else (some false)) else (some false)) else (some false))))))
end
def cambiumlaw13_DataApart.f (k : Nat) (l0 : List (S54)) (a1 : Int) (a2 : Int) (a3 : Int) (a4 : ByteArray) (a5 : ByteArray) : Option (Bool) := (cambiumlaw13_lives.f k).bind fun t307 => (if t307 = true then (if (a4.size : Int) > 1000 then (cambiumlaw13_DataApart.j0 k l0 a1 a2 a3 a4 a5 true) else (if (a5.size : Int) > 1000 then (cambiumlaw13_DataApart.j0 k l0 a1 a2 a3 a4 a5 true) else (if a2 > 60000 then (cambiumlaw13_DataApart.j0 k l0 a1 a2 a3 a4 a5 true) else (if a3 > 60000 then (cambiumlaw13_DataApart.j0 k l0 a1 a2 a3 a4 a5 true) else (cambiumlaw13_DataApart.j0 k l0 a1 a2 a3 a4 a5 (decide ((IntKind.u64.wrap ((IntKind.u64.wrap (a2)) + (IntKind.u64.wrap ((a4.size : Int))))) > (IntKind.u64.wrap (a3))))))))) else (some false))
theorem cambiumlaw13_DataApart.mono_l : ∀ k, (∀ y0 y1 y2 y3 y4 y5 y6, LeO (cambiumlaw13_DataApart.j0 k y0 y1 y2 y3 y4 y5 y6) (cambiumlaw13_DataApart.j0 (k + 1) y0 y1 y2 y3 y4 y5 y6)) ∧ (∀ y0 y1 y2 y3 y4 y5 y6 y7 y8, LeO (cambiumlaw13_DataApart.j1 k y0 y1 y2 y3 y4 y5 y6 y7 y8) (cambiumlaw13_DataApart.j1 (k + 1) y0 y1 y2 y3 y4 y5 y6 y7 y8))
  | 0 => ⟨fun _ _ _ _ _ _ _ r h => by simp [cambiumlaw13_DataApart.j0] at h, fun _ _ _ _ _ _ _ _ _ r h => by simp [cambiumlaw13_DataApart.j1] at h⟩
  | k + 1 => by
    obtain ⟨ih0, ih1⟩ := cambiumlaw13_DataApart.mono_l k
    refine ⟨?_, ?_⟩
    · intro y0 y1 y2 y3 y4 y5 y6
      unfold cambiumlaw13_DataApart.j0
      repeat' first
      | (with_reducible exact ih0 _ _ _ _ _ _ _)
      | (with_reducible exact ih1 _ _ _ _ _ _ _ _ _)
      | (with_reducible exact cambiumlaw13_lives.mono _)
      | (with_reducible exact cambiumref04_Same.mono _ _ _)
      | (with_reducible exact data_Write.mono _ _ _ _ _)
      | (with_reducible exact item_Apply.mono _ _ _)
      | (with_reducible exact LeO.refl _)
      | (with_reducible exact LeO.none _)
      | (with_reducible refine LeO.ite ?_ ?_)
      | (with_reducible refine LeO.bind ?_ (fun _ => ?_))
      | exact ih0 _ _ _ _ _ _ _
      | exact ih1 _ _ _ _ _ _ _ _ _
      | exact cambiumlaw13_lives.mono _
      | exact cambiumref04_Same.mono _ _ _
      | exact data_Write.mono _ _ _ _ _
      | exact item_Apply.mono _ _ _
      | exact LeO.none _
      | refine LeO.ite ?_ ?_
      | refine LeO.bind ?_ (fun _ => ?_)
    intro y0 y1 y2 y3 y4 y5 y6 y7 y8
    unfold cambiumlaw13_DataApart.j1
    repeat' first
    | (with_reducible exact ih0 _ _ _ _ _ _ _)
    | (with_reducible exact ih1 _ _ _ _ _ _ _ _ _)
    | (with_reducible exact cambiumlaw13_lives.mono _)
    | (with_reducible exact cambiumref04_Same.mono _ _ _)
    | (with_reducible exact data_Write.mono _ _ _ _ _)
    | (with_reducible exact item_Apply.mono _ _ _)
    | (with_reducible exact LeO.refl _)
    | (with_reducible exact LeO.none _)
    | (with_reducible refine LeO.ite ?_ ?_)
    | (with_reducible refine LeO.bind ?_ (fun _ => ?_))
    | exact ih0 _ _ _ _ _ _ _
    | exact ih1 _ _ _ _ _ _ _ _ _
    | exact cambiumlaw13_lives.mono _
    | exact cambiumref04_Same.mono _ _ _
    | exact data_Write.mono _ _ _ _ _
    | exact item_Apply.mono _ _ _
    | exact LeO.none _
    | refine LeO.ite ?_ ?_
    | refine LeO.bind ?_ (fun _ => ?_)
theorem cambiumlaw13_DataApart.mono : ∀ a0 a1 a2 a3 a4 a5 k, LeO (cambiumlaw13_DataApart.f k a0 a1 a2 a3 a4 a5) (cambiumlaw13_DataApart.f (k + 1) a0 a1 a2 a3 a4 a5) := by
  intro a0 a1 a2 a3 a4 a5 k
  obtain ⟨ih0, ih1⟩ := cambiumlaw13_DataApart.mono_l k
  unfold cambiumlaw13_DataApart.f
  repeat' first
      | (with_reducible exact ih0 _ _ _ _ _ _ _)
      | (with_reducible exact ih1 _ _ _ _ _ _ _ _ _)
      | (with_reducible exact cambiumlaw13_lives.mono _)
      | (with_reducible exact cambiumref04_Same.mono _ _ _)
      | (with_reducible exact data_Write.mono _ _ _ _ _)
      | (with_reducible exact item_Apply.mono _ _ _)
      | (with_reducible exact LeO.refl _)
      | (with_reducible exact LeO.none _)
      | (with_reducible refine LeO.ite ?_ ?_)
      | (with_reducible refine LeO.bind ?_ (fun _ => ?_))
      | exact ih0 _ _ _ _ _ _ _
      | exact ih1 _ _ _ _ _ _ _ _ _
      | exact cambiumlaw13_lives.mono _
      | exact cambiumref04_Same.mono _ _ _
      | exact data_Write.mono _ _ _ _ _
      | exact item_Apply.mono _ _ _
      | exact LeO.none _
      | refine LeO.ite ?_ ?_
      | refine LeO.bind ?_ (fun _ => ?_)
set_option maxHeartbeats 8000000 in
set_option maxRecDepth 100000 in
theorem cambiumlaw13_DataApart.calls (k : Nat) (A0 : Option Addr) (c0 : Nat) (l0 : List (S54)) (a1 : Int) (a2 : Int) (a3 : Int) (a4 : ByteArray) (a5 : ByteArray) (r : Bool) (w : World) (hr0 : Kd.C k54 w A0 l0.length l0) (hc0 : l0.length ≤ c0) (h : cambiumlaw13_DataApart.f k l0 a1 a2 a3 a4 a5 = some r) (hT_ : r = true := by rfl) :
    Calls Tryz.prog 6 #[.slice A0 l0.length c0, .int .u32 a1, .int .u32 a2, .int .u32 a3, .string a4, .string a5] w fun e w' => e = .returned (.bool r) ∧ Below w.heap.size w w' := by
  have HT_ := Aside0.mk hT_
  clear hT_
  have HR0 := Aside0.mk hr0
  have HC0 := Aside0.mk hc0
  clear hr0 hc0
  have HB := Aside0.mk (Below.refl w.heap.size w)
  have H : ((cambiumlaw13_lives.f k).bind fun t307 => (if t307 = true then (if (a4.size : Int) > 1000 then (cambiumlaw13_DataApart.j0 k l0 a1 a2 a3 a4 a5 true) else (if (a5.size : Int) > 1000 then (cambiumlaw13_DataApart.j0 k l0 a1 a2 a3 a4 a5 true) else (if a2 > 60000 then (cambiumlaw13_DataApart.j0 k l0 a1 a2 a3 a4 a5 true) else (if a3 > 60000 then (cambiumlaw13_DataApart.j0 k l0 a1 a2 a3 a4 a5 true) else (cambiumlaw13_DataApart.j0 k l0 a1 a2 a3 a4 a5 (decide ((IntKind.u64.wrap ((IntKind.u64.wrap (a2)) + (IntKind.u64.wrap ((a4.size : Int))))) > (IntKind.u64.wrap (a3))))))))) else (some false))) = some r := h
  clear h
  replace H := Option.bind_eq_some_iff.mp H
  obtain ⟨t307, A70, H⟩ := H
  replace H : (if t307 = true then (if (a4.size : Int) > 1000 then (cambiumlaw13_DataApart.j0 k l0 a1 a2 a3 a4 a5 true) else (if (a5.size : Int) > 1000 then (cambiumlaw13_DataApart.j0 k l0 a1 a2 a3 a4 a5 true) else (if a2 > 60000 then (cambiumlaw13_DataApart.j0 k l0 a1 a2 a3 a4 a5 true) else (if a3 > 60000 then (cambiumlaw13_DataApart.j0 k l0 a1 a2 a3 a4 a5 true) else (cambiumlaw13_DataApart.j0 k l0 a1 a2 a3 a4 a5 (decide ((IntKind.u64.wrap ((IntKind.u64.wrap (a2)) + (IntKind.u64.wrap ((a4.size : Int))))) > (IntKind.u64.wrap (a3))))))))) else (some false)) = some r := H
  have A7 := Aside0.mk A70
  clear A70
  by_cases c8 : t307 = true
  · subst c8
    have H1 : (if (a4.size : Int) > 1000 then (cambiumlaw13_DataApart.j0 k l0 a1 a2 a3 a4 a5 true) else (if (a5.size : Int) > 1000 then (cambiumlaw13_DataApart.j0 k l0 a1 a2 a3 a4 a5 true) else (if a2 > 60000 then (cambiumlaw13_DataApart.j0 k l0 a1 a2 a3 a4 a5 true) else (if a3 > 60000 then (cambiumlaw13_DataApart.j0 k l0 a1 a2 a3 a4 a5 true) else (cambiumlaw13_DataApart.j0 k l0 a1 a2 a3 a4 a5 (decide ((IntKind.u64.wrap ((IntKind.u64.wrap (a2)) + (IntKind.u64.wrap ((a4.size : Int))))) > (IntKind.u64.wrap (a3))))))))) = some r := by rw [if_pos rfl] at H; exact H
    clear H
    have H := H1
    clear H1
    have HC9 := Aside0.mk H
    clear H
    go_enter Tryz.func6, Tryz.ntmps6
    go_upto_region 3 with (first | ((with_reducible refine gate_callee (f := 8) rfl ?_); refine gl_ (some 22) Tryz.func8 #[] ?_; (with_reducible refine (cambiumlaw13_lives.calls k  true _ A7.out).mono ?_); rintro e w10 ⟨rfl, hb⟩; refine ⟨_, rfl, ?_⟩; have n0_ := Aside0.mk (below_step bel_ hb); clear HB; have HB := n0_; clear n0_; (try clear hb); (try clear hb2); (try clear hk); (try clear hi)))
    (try simp only [Act.put, List.setIfInBounds_toArray, List.set_cons_zero, List.set_cons_succ])
    go_cut [50] (fun v50 wc => ∃ (kq : Nat) (x50_8 : Bool), v50 = .bool x50_8 ∧ Aside0 (cambiumlaw13_DataApart.j0 kq l0 a1 a2 a3 a4 a5 x50_8 = some r) ∧ Aside0 (kq ≤ k) ∧ Aside0 (Below w.heap.size w wc))
    case first =>
      have H := HC9.out
      clear HC9
      by_cases c11 : (a4.size : Int) > 1000
      · rw [if_pos c11] at H
        have c11b0 : decide (1000 < (a4.size : Int)) = true := decide_eq_true c11
        have c11b1 : decide (1000 < a4.size) = true := decide_eq_true (by omega)
        clear c11
        (first | rw [c11b0] | (simp only [i64_w, i32_w]; rw [c11b0]) | skip)
        have H' := Aside0.mk H
        clear H
        go_wp2
        go_meet
        case rel => exact ⟨_, (true), (by first | rfl | (simp; done) | (simp [*]; done)), H', ⟨by first | omega | exact Nat.le_refl _⟩, ⟨bel_⟩⟩
      rw [if_neg c11] at H
      have c11b0 : decide (1000 < (a4.size : Int)) = false := decide_eq_false c11
      have c11b1 : decide (1000 < a4.size) = false := decide_eq_false (by omega)
      clear c11
      (first | rw [c11b0] | (simp only [i64_w, i32_w]; rw [c11b0]) | skip)
      by_cases c12 : (a5.size : Int) > 1000
      · rw [if_pos c12] at H
        have c12b0 : decide (1000 < (a5.size : Int)) = true := decide_eq_true c12
        have c12b1 : decide (1000 < a5.size) = true := decide_eq_true (by omega)
        clear c12
        have H' := Aside0.mk H
        clear H
        go_wp2
        go_meet
        case rel => exact ⟨_, (true), (by first | rfl | (simp; done) | (simp [*]; done)), H', ⟨by first | omega | exact Nat.le_refl _⟩, ⟨bel_⟩⟩
      rw [if_neg c12] at H
      have c12b0 : decide (1000 < (a5.size : Int)) = false := decide_eq_false c12
      have c12b1 : decide (1000 < a5.size) = false := decide_eq_false (by omega)
      clear c12
      by_cases c13 : a2 > 60000
      · rw [if_pos c13] at H
        have c13b0 : decide (60000 < a2) = true := decide_eq_true c13
        clear c13
        have H' := Aside0.mk H
        clear H
        go_wp2
        go_meet
        case rel => exact ⟨_, (true), (by first | rfl | (simp; done) | (simp [*]; done)), H', ⟨by first | omega | exact Nat.le_refl _⟩, ⟨bel_⟩⟩
      rw [if_neg c13] at H
      have c13b0 : decide (60000 < a2) = false := decide_eq_false c13
      clear c13
      by_cases c14 : a3 > 60000
      · rw [if_pos c14] at H
        have c14b0 : decide (60000 < a3) = true := decide_eq_true c14
        clear c14
        have H' := Aside0.mk H
        clear H
        go_wp2
        go_meet
        case rel => exact ⟨_, (true), (by first | rfl | (simp; done) | (simp [*]; done)), H', ⟨by first | omega | exact Nat.le_refl _⟩, ⟨bel_⟩⟩
      rw [if_neg c14] at H
      have c14b0 : decide (60000 < a3) = false := decide_eq_false c14
      clear c14
      have H' := Aside0.mk H
      clear H
      go_wp2
      go_meet
      case rel => exact ⟨_, (decide ((IntKind.u64.wrap ((IntKind.u64.wrap (a2)) + (IntKind.u64.wrap ((a4.size : Int))))) > (IntKind.u64.wrap (a3)))), (by first | rfl | (simp; done) | (simp [*]; done)), H', ⟨by first | omega | exact Nat.le_refl _⟩, ⟨bel_⟩⟩
    case rest =>
      clear HC9
      try clear c1
      try clear p2
      try clear c6
      try clear c8
      try clear c11
      try clear c11b0
      try clear c11b1
      try clear c12
      try clear c12b0
      try clear c12b1
      try clear c13
      try clear c13b0
      try clear c14
      try clear c14b0
      obtain ⟨kq, x50_8, rfl, HA, HJ8, HB⟩ := hcut
      cases kq with
      | zero => exact absurd HA.out (by simp [cambiumlaw13_DataApart.j0])
      | succ kj8 =>
        have H := HA.out
        clear HA
        simp only [cambiumlaw13_DataApart.j0] at H
        by_cases c15 : x50_8 = true
        · subst c15
          have H1 : (some true) = some r := by rw [if_pos rfl] at H; exact H
          clear H
          have H := H1
          clear H1
          obtain rfl := Option.some.inj H
          go_wp2
          go_ret
          exact ⟨by first | rfl | (simp [errW_none, errW_some] <;> rfl) | (simp [*, errW_none, errW_some] <;> rfl), bel_⟩
        replace c15 := Bool.eq_false_iff.mpr c15
        subst c15
        have H1 : ((data_Write.f kj8 l0 a1 a2 a4).bind fun bt308 => ((item_Apply.f kj8 l0 bt308.1).bind fun bt312 => ((data_Write.f kj8 bt312.1 a1 a3 a5).bind fun bt316 => ((item_Apply.f kj8 bt312.1 bt316.1).bind fun bt320 => (if bt308.2 = 0 then (if bt312.2 = 0 then (if bt316.2 = 0 then (cambiumlaw13_DataApart.j1 kj8 l0 a1 a2 a3 a4 a5 bt308.2 bt320.1 (bt320.2 != 0)) else (cambiumlaw13_DataApart.j1 kj8 l0 a1 a2 a3 a4 a5 bt308.2 bt320.1 true)) else (cambiumlaw13_DataApart.j1 kj8 l0 a1 a2 a3 a4 a5 bt308.2 bt320.1 true)) else (cambiumlaw13_DataApart.j1 kj8 l0 a1 a2 a3 a4 a5 bt308.2 bt320.1 true)))))) = some r := by rw [if_neg (show ¬ (false = true) by decide)] at H; exact H
        clear H
        have H := H1
        clear H1
        replace H := Option.bind_eq_some_iff.mp H
        obtain ⟨⟨t308, t309⟩, A160, H⟩ := H
        replace H : ((item_Apply.f kj8 l0 t308).bind fun bt312 => ((data_Write.f kj8 bt312.1 a1 a3 a5).bind fun bt316 => ((item_Apply.f kj8 bt312.1 bt316.1).bind fun bt320 => (if t309 = 0 then (if bt312.2 = 0 then (if bt316.2 = 0 then (cambiumlaw13_DataApart.j1 kj8 l0 a1 a2 a3 a4 a5 t309 bt320.1 (bt320.2 != 0)) else (cambiumlaw13_DataApart.j1 kj8 l0 a1 a2 a3 a4 a5 t309 bt320.1 true)) else (cambiumlaw13_DataApart.j1 kj8 l0 a1 a2 a3 a4 a5 t309 bt320.1 true)) else (cambiumlaw13_DataApart.j1 kj8 l0 a1 a2 a3 a4 a5 t309 bt320.1 true))))) = some r := H
        have A16 := Aside0.mk A160
        clear A160
        replace H := Option.bind_eq_some_iff.mp H
        obtain ⟨⟨t312, t313⟩, A170, H⟩ := H
        replace H : ((data_Write.f kj8 t312 a1 a3 a5).bind fun bt316 => ((item_Apply.f kj8 t312 bt316.1).bind fun bt320 => (if t309 = 0 then (if t313 = 0 then (if bt316.2 = 0 then (cambiumlaw13_DataApart.j1 kj8 l0 a1 a2 a3 a4 a5 t309 bt320.1 (bt320.2 != 0)) else (cambiumlaw13_DataApart.j1 kj8 l0 a1 a2 a3 a4 a5 t309 bt320.1 true)) else (cambiumlaw13_DataApart.j1 kj8 l0 a1 a2 a3 a4 a5 t309 bt320.1 true)) else (cambiumlaw13_DataApart.j1 kj8 l0 a1 a2 a3 a4 a5 t309 bt320.1 true)))) = some r := H
        have A17 := Aside0.mk A170
        clear A170
        replace H := Option.bind_eq_some_iff.mp H
        obtain ⟨⟨t316, t317⟩, A180, H⟩ := H
        replace H : ((item_Apply.f kj8 t312 t316).bind fun bt320 => (if t309 = 0 then (if t313 = 0 then (if t317 = 0 then (cambiumlaw13_DataApart.j1 kj8 l0 a1 a2 a3 a4 a5 t309 bt320.1 (bt320.2 != 0)) else (cambiumlaw13_DataApart.j1 kj8 l0 a1 a2 a3 a4 a5 t309 bt320.1 true)) else (cambiumlaw13_DataApart.j1 kj8 l0 a1 a2 a3 a4 a5 t309 bt320.1 true)) else (cambiumlaw13_DataApart.j1 kj8 l0 a1 a2 a3 a4 a5 t309 bt320.1 true))) = some r := H
        have A18 := Aside0.mk A180
        clear A180
        replace H := Option.bind_eq_some_iff.mp H
        obtain ⟨⟨t320, t321⟩, A190, H⟩ := H
        replace H : (if t309 = 0 then (if t313 = 0 then (if t317 = 0 then (cambiumlaw13_DataApart.j1 kj8 l0 a1 a2 a3 a4 a5 t309 t320 (t321 != 0)) else (cambiumlaw13_DataApart.j1 kj8 l0 a1 a2 a3 a4 a5 t309 t320 true)) else (cambiumlaw13_DataApart.j1 kj8 l0 a1 a2 a3 a4 a5 t309 t320 true)) else (cambiumlaw13_DataApart.j1 kj8 l0 a1 a2 a3 a4 a5 t309 t320 true)) = some r := H
        have A19 := Aside0.mk A190
        clear A190
        have HC20 := Aside0.mk H
        clear H
        go_upto_region 9 with (first | ((with_reducible refine gate_callee (f := 9) rfl ?_); refine gl_ (some 56) Tryz.func9 #[.slice A0 l0.length c0, .int .u32 a1, .int .u32 a2, .string a4] ?_; (with_reducible refine (data_Write.calls kj8 _ _ l0 a1 a2 a4 t308 t309 _ ?side1 ?side2 A16.out).mono ?_); (case side1 => exact cb_ HR0); (case side2 => exact HC0.out); rintro e w21 ⟨v310, rfl, ho0, hb⟩; refine ⟨_, rfl, ?_⟩; have n0_ := Aside0.mk (Kd.R_lower ho0 (below_size bel_)); have n1_ := Aside0.mk (below_step bel_ hb); clear HB; have HO311 := n0_; have HB := n1_; clear n0_ n1_; (try clear hb); (try clear hb2); (try clear hk); (try clear hi); (try clear ho0); obtain ⟨Ao22, co22, eo22⟩ := Kd.R_slice HO311.out; subst eo22) | ((with_reducible refine gate_callee (f := 10) rfl ?_); refine gl_ (some 62) Tryz.func10 #[.slice A0 l0.length c0, .slice Ao22 t308.length co22] ?_; (with_reducible refine (item_Apply.calls kj8 _ _ l0 _ _ t308 t312 t313 _ ?side1 ?side2 ?side3 ?side4 A17.out).mono ?_); (case side1 => exact cb_ HR0); (case side2 => exact HC0.out); (case side3 => exact cr_ HO311); (case side4 => exact (Kd.R_reads' HO311.out).2.1); rintro e w23 ⟨v314, rfl, ho0, hb⟩; refine ⟨_, rfl, ?_⟩; have n0_ := Aside0.mk (Kd.R_below (ra_ HO311) hb); have n1_ := Aside0.mk (Kd.R_lower ho0 (below_size bel_)); have n2_ := Aside0.mk (below_step bel_ hb); clear HO311; clear HB; have HO311 := n0_; have HO315 := n1_; have HB := n2_; clear n0_ n1_ n2_; (try clear hb); (try clear hb2); (try clear hk); (try clear hi); (try clear ho0); obtain ⟨Ao24, co24, eo24⟩ := Kd.R_slice HO315.out; subst eo24) | ((with_reducible refine gate_callee (f := 9) rfl ?_); refine gl_ (some 70) Tryz.func9 #[.slice Ao24 t312.length co24, .int .u32 a1, .int .u32 a3, .string a5] ?_; (with_reducible refine (data_Write.calls kj8 _ _ t312 a1 a3 a5 t316 t317 _ ?side1 ?side2 A18.out).mono ?_); (case side1 => exact cr_ HO315); (case side2 => exact (Kd.R_reads' HO315.out).2.1); rintro e w25 ⟨v318, rfl, ho0, hb⟩; refine ⟨_, rfl, ?_⟩; have n0_ := Aside0.mk (Kd.R_elder' (ra_ HO311) (Kd.R_base ho0) hb); have n1_ := Aside0.mk (Kd.R_below (ra_ HO315) hb); have n2_ := Aside0.mk (Kd.R_lower (Kd.R_new' ho0 (Kd.R_lt (ra_ HO311))) (below_size bel_)); have n3_ := Aside0.mk (below_step bel_ hb); clear HO311; clear HO315; clear HB; have HO311 := n0_; have HO315 := n1_; have HO319 := n2_; have HB := n3_; clear n0_ n1_ n2_ n3_; (try clear hb); (try clear hb2); (try clear hk); (try clear hi); (try clear ho0); obtain ⟨Ao26, co26, eo26⟩ := Kd.R_slice HO319.out; subst eo26) | ((with_reducible refine gate_callee (f := 10) rfl ?_); refine gl_ (some 76) Tryz.func10 #[.slice Ao24 t312.length co24, .slice Ao26 t316.length co26] ?_; (with_reducible refine (item_Apply.calls kj8 _ _ t312 _ _ t316 t320 t321 _ ?side1 ?side2 ?side3 ?side4 A19.out).mono ?_); (case side1 => exact cr_ HO315); (case side2 => exact (Kd.R_reads' HO315.out).2.1); (case side3 => exact cr_ HO319); (case side4 => exact (Kd.R_reads' HO319.out).2.1); rintro e w27 ⟨v322, rfl, ho0, hb⟩; refine ⟨_, rfl, ?_⟩; have n0_ := Aside0.mk (Kd.R_below (ra_ HO311) hb); have n1_ := Aside0.mk (Kd.R_elder' (ra_ HO315) (Kd.R_base ho0) hb); have n2_ := Aside0.mk (Kd.R_below (ra_ HO319) hb); have n3_ := Aside0.mk (Kd.R_lower (Kd.R_new' ho0 (Kd.R_lt (ra_ HO315))) (below_size bel_)); have n4_ := Aside0.mk (below_step bel_ hb); clear HO311; clear HO315; clear HO319; clear HB; have HO311 := n0_; have HO315 := n1_; have HO319 := n2_; have HO323 := n3_; have HB := n4_; clear n0_ n1_ n2_ n3_ n4_; (try clear hb); (try clear hb2); (try clear hk); (try clear hi); (try clear ho0)))
        (try simp only [Act.put, List.setIfInBounds_toArray, List.set_cons_zero, List.set_cons_succ])
        go_cut [92] (fun v92 wc => ∃ (kq : Nat) (x92_19 : Bool), v92 = .bool x92_19 ∧ Aside0 (cambiumlaw13_DataApart.j1 kq l0 a1 a2 a3 a4 a5 t309 t320 x92_19 = some r) ∧ Aside0 (kq ≤ kj8) ∧ Aside0 (Kd.R k54 54 wc w.heap.size (fun _ => True) v322 t320) ∧ Aside0 (Below w.heap.size w wc))
        case first =>
          have H := HC20.out
          clear HC20
          by_cases c28 : t309 = 0
          · rw [if_pos c28] at H
            have c28b0 : (t309 == 0) = true := beq_iff_eq.mpr c28
            have c28b1 : (t309 != 0) = false := bne_eq_false_iff_eq.mpr c28
            clear c28
            (first | rw [c28b0] | (simp only [i64_w, i32_w]; rw [c28b0]) | skip)
            by_cases c29 : t313 = 0
            · rw [if_pos c29] at H
              have c29b0 : (t313 == 0) = true := beq_iff_eq.mpr c29
              have c29b1 : (t313 != 0) = false := bne_eq_false_iff_eq.mpr c29
              clear c29
              by_cases c30 : t317 = 0
              · rw [if_pos c30] at H
                have c30b0 : (t317 == 0) = true := beq_iff_eq.mpr c30
                have c30b1 : (t317 != 0) = false := bne_eq_false_iff_eq.mpr c30
                clear c30
                have H' := Aside0.mk H
                clear H
                go_wp2
                go_meet
                case rel => exact ⟨_, ((t321 != 0)), (by first | rfl | (simp; done) | (simp [*]; done)), H', ⟨by have := HJ8.out; first | omega | exact Nat.le_refl _⟩, ⟨by (with_reducible repeat (first | apply Kd.R_alloc | apply Kd.R_drewN | apply Kd.R_drew)); exact Kd.R_mono HO323.out (fun _ hk => trivial)⟩, ⟨bel_⟩⟩
              rw [if_neg c30] at H
              have c30b0 : (t317 == 0) = false := beq_eq_false_iff_ne.mpr c30
              have c30b1 : (t317 != 0) = true := bne_iff_ne.mpr c30
              have H' := Aside0.mk H
              clear H
              go_wp2
              go_meet
              case rel => exact ⟨_, (true), (by first | rfl | (simp; done) | (simp [*]; done)), H', ⟨by have := HJ8.out; first | omega | exact Nat.le_refl _⟩, ⟨by (with_reducible repeat (first | apply Kd.R_alloc | apply Kd.R_drewN | apply Kd.R_drew)); exact Kd.R_mono HO323.out (fun _ hk => trivial)⟩, ⟨bel_⟩⟩
            rw [if_neg c29] at H
            have c29b0 : (t313 == 0) = false := beq_eq_false_iff_ne.mpr c29
            have c29b1 : (t313 != 0) = true := bne_iff_ne.mpr c29
            have H' := Aside0.mk H
            clear H
            go_wp2
            go_meet
            case rel => exact ⟨_, (true), (by first | rfl | (simp; done) | (simp [*]; done)), H', ⟨by have := HJ8.out; first | omega | exact Nat.le_refl _⟩, ⟨by (with_reducible repeat (first | apply Kd.R_alloc | apply Kd.R_drewN | apply Kd.R_drew)); exact Kd.R_mono HO323.out (fun _ hk => trivial)⟩, ⟨bel_⟩⟩
          rw [if_neg c28] at H
          have c28b0 : (t309 == 0) = false := beq_eq_false_iff_ne.mpr c28
          have c28b1 : (t309 != 0) = true := bne_iff_ne.mpr c28
          (first | rw [c28b0] | (simp only [i64_w, i32_w]; rw [c28b0]) | skip)
          have H' := Aside0.mk H
          clear H
          go_wp2
          go_meet
          case rel => exact ⟨_, (true), (by first | rfl | (simp; done) | (simp [*]; done)), H', ⟨by have := HJ8.out; first | omega | exact Nat.le_refl _⟩, ⟨by (with_reducible repeat (first | apply Kd.R_alloc | apply Kd.R_drewN | apply Kd.R_drew)); exact Kd.R_mono HO323.out (fun _ hk => trivial)⟩, ⟨bel_⟩⟩
        case rest =>
          clear HC20
          try clear c1
          try clear c2
          try clear p2
          try clear c3
          try clear c6
          try clear c8
          try clear c9
          try clear c10
          try clear c11
          try clear c11b0
          try clear c11b1
          try clear c12
          try clear c12b0
          try clear c12b1
          try clear c13
          try clear c13b0
          try clear c14
          try clear c14b0
          try clear c15
          try clear c28
          try clear c28b0
          try clear c28b1
          try clear c29
          try clear c29b0
          try clear c29b1
          try clear c30
          try clear c30b0
          try clear c30b1
          try clear p2
          obtain ⟨kq, x92_19, rfl, HA, HJ19, HO_19, HB⟩ := hcut
          cases kq with
          | zero => exact absurd HA.out (by simp [cambiumlaw13_DataApart.j1])
          | succ kj19 =>
            have H := HA.out
            clear HA
            simp only [cambiumlaw13_DataApart.j1] at H
            by_cases c31 : x92_19 = true
            · subst c31
              have H1 : (some (t309 != 0)) = some r := by rw [if_pos rfl] at H; exact H
              clear H
              have H := H1
              clear H1
              obtain rfl := Option.some.inj H
              go_wp2
              go_ret
              exact ⟨by first | rfl | (simp [errW_none, errW_some] <;> rfl) | (simp [*, errW_none, errW_some] <;> rfl), bel_⟩
            replace c31 := Bool.eq_false_iff.mpr c31
            subst c31
            have H1 : ((data_Write.f kj19 l0 a1 a3 a5).bind fun bt324 => ((item_Apply.f kj19 l0 bt324.1).bind fun bt328 => ((data_Write.f kj19 bt328.1 a1 a2 a4).bind fun bt332 => ((item_Apply.f kj19 bt328.1 bt332.1).bind fun bt336 => (if bt324.2 = 0 then (if bt328.2 = 0 then (if bt332.2 = 0 then (if bt336.2 = 0 then ((cambiumref04_Same.f kj19 t320 bt336.1).bind fun t340 => (some t340)) else (some false)) else (some false)) else (some false)) else (some false)))))) = some r := by rw [if_neg (show ¬ (false = true) by decide)] at H; exact H
            clear H
            have H := H1
            clear H1
            replace H := Option.bind_eq_some_iff.mp H
            obtain ⟨⟨t324, t325⟩, A320, H⟩ := H
            replace H : ((item_Apply.f kj19 l0 t324).bind fun bt328 => ((data_Write.f kj19 bt328.1 a1 a2 a4).bind fun bt332 => ((item_Apply.f kj19 bt328.1 bt332.1).bind fun bt336 => (if t325 = 0 then (if bt328.2 = 0 then (if bt332.2 = 0 then (if bt336.2 = 0 then ((cambiumref04_Same.f kj19 t320 bt336.1).bind fun t340 => (some t340)) else (some false)) else (some false)) else (some false)) else (some false))))) = some r := H
            have A32 := Aside0.mk A320
            clear A320
            replace H := Option.bind_eq_some_iff.mp H
            obtain ⟨⟨t328, t329⟩, A330, H⟩ := H
            replace H : ((data_Write.f kj19 t328 a1 a2 a4).bind fun bt332 => ((item_Apply.f kj19 t328 bt332.1).bind fun bt336 => (if t325 = 0 then (if t329 = 0 then (if bt332.2 = 0 then (if bt336.2 = 0 then ((cambiumref04_Same.f kj19 t320 bt336.1).bind fun t340 => (some t340)) else (some false)) else (some false)) else (some false)) else (some false)))) = some r := H
            have A33 := Aside0.mk A330
            clear A330
            replace H := Option.bind_eq_some_iff.mp H
            obtain ⟨⟨t332, t333⟩, A340, H⟩ := H
            replace H : ((item_Apply.f kj19 t328 t332).bind fun bt336 => (if t325 = 0 then (if t329 = 0 then (if t333 = 0 then (if bt336.2 = 0 then ((cambiumref04_Same.f kj19 t320 bt336.1).bind fun t340 => (some t340)) else (some false)) else (some false)) else (some false)) else (some false))) = some r := H
            have A34 := Aside0.mk A340
            clear A340
            replace H := Option.bind_eq_some_iff.mp H
            obtain ⟨⟨t336, t337⟩, A350, H⟩ := H
            replace H : (if t325 = 0 then (if t329 = 0 then (if t333 = 0 then (if t337 = 0 then ((cambiumref04_Same.f kj19 t320 t336).bind fun t340 => (some t340)) else (some false)) else (some false)) else (some false)) else (some false)) = some r := H
            have A35 := Aside0.mk A350
            clear A350
            by_cases c36 : t325 = 0
            · rw [if_pos c36] at H
              have c36b0 : (t325 == 0) = true := beq_iff_eq.mpr c36
              have c36b1 : (t325 != 0) = false := bne_eq_false_iff_eq.mpr c36
              clear c36
              by_cases c37 : t329 = 0
              · rw [if_pos c37] at H
                have c37b0 : (t329 == 0) = true := beq_iff_eq.mpr c37
                have c37b1 : (t329 != 0) = false := bne_eq_false_iff_eq.mpr c37
                clear c37
                by_cases c38 : t333 = 0
                · rw [if_pos c38] at H
                  have c38b0 : (t333 == 0) = true := beq_iff_eq.mpr c38
                  have c38b1 : (t333 != 0) = false := bne_eq_false_iff_eq.mpr c38
                  clear c38
                  by_cases c39 : t337 = 0
                  · rw [if_pos c39] at H
                    have c39b0 : (t337 == 0) = true := beq_iff_eq.mpr c39
                    have c39b1 : (t337 != 0) = false := bne_eq_false_iff_eq.mpr c39
                    clear c39
                    replace H := Option.bind_eq_some_iff.mp H
                    obtain ⟨t340, A400, H⟩ := H
                    replace H : (some t340) = some r := H
                    have A40 := Aside0.mk A400
                    clear A400
                    obtain rfl := Option.some.inj H
                    go_wp2_with (first | ((with_reducible refine gate_callee (f := 9) rfl ?_); refine gl_ (some 100) Tryz.func9 #[.slice A0 l0.length c0, .int .u32 a1, .int .u32 a3, .string a5] ?_; (with_reducible refine (data_Write.calls kj19 _ _ l0 a1 a3 a5 t324 t325 _ ?side1 ?side2 A32.out).mono ?_); (case side1 => exact cb_ HR0); (case side2 => exact HC0.out); rintro e w41 ⟨v326, rfl, ho0, hb⟩; refine ⟨_, rfl, ?_⟩; have HO327 := rl_ ho0; replace HO_19 := rb_ HO_19 hb; replace HB := hb_ hb; (try clear hb); (try clear hb2); (try clear hk); (try clear hi); (try clear ho0); obtain ⟨Ao42, co42, eo42⟩ := Kd.R_slice HO327.out; subst eo42) | ((with_reducible refine gate_callee (f := 10) rfl ?_); refine gl_ (some 106) Tryz.func10 #[.slice A0 l0.length c0, .slice Ao42 t324.length co42] ?_; (with_reducible refine (item_Apply.calls kj19 _ _ l0 _ _ t324 t328 t329 _ ?side1 ?side2 ?side3 ?side4 A33.out).mono ?_); (case side1 => exact cb_ HR0); (case side2 => exact HC0.out); (case side3 => exact cr_ HO327); (case side4 => exact (Kd.R_reads' HO327.out).2.1); rintro e w43 ⟨v330, rfl, ho0, hb⟩; refine ⟨_, rfl, ?_⟩; have HO331 := Aside0.mk (Kd.R_lower (Kd.R_new' ho0 (Kd.R_lt (ra_ HO_19))) (below_size bel_)); replace HO_19 := Aside0.mk (Kd.R_elder' (ra_ HO_19) (Kd.R_base ho0) hb); replace HO327 := rb_ HO327 hb; replace HB := hb_ hb; (try clear hb); (try clear hb2); (try clear hk); (try clear hi); (try clear ho0); obtain ⟨Ao44, co44, eo44⟩ := Kd.R_slice HO331.out; subst eo44) | ((with_reducible refine gate_callee (f := 9) rfl ?_); refine gl_ (some 114) Tryz.func9 #[.slice Ao44 t328.length co44, .int .u32 a1, .int .u32 a2, .string a4] ?_; (with_reducible refine (data_Write.calls kj19 _ _ t328 a1 a2 a4 t332 t333 _ ?side1 ?side2 A34.out).mono ?_); (case side1 => exact cr_ HO331); (case side2 => exact (Kd.R_reads' HO331.out).2.1); rintro e w45 ⟨v334, rfl, ho0, hb⟩; refine ⟨_, rfl, ?_⟩; have HO335 := Aside0.mk (Kd.R_lower (Kd.R_new' ho0 (Kd.R_lt (ra_ HO327))) (below_size bel_)); replace HO_19 := rb_ HO_19 hb; replace HO327 := Aside0.mk (Kd.R_elder' (ra_ HO327) (Kd.R_base ho0) hb); replace HO331 := rb_ HO331 hb; replace HB := hb_ hb; (try clear hb); (try clear hb2); (try clear hk); (try clear hi); (try clear ho0); obtain ⟨Ao46, co46, eo46⟩ := Kd.R_slice HO335.out; subst eo46) | ((with_reducible refine gate_callee (f := 10) rfl ?_); refine gl_ (some 120) Tryz.func10 #[.slice Ao44 t328.length co44, .slice Ao46 t332.length co46] ?_; (with_reducible refine (item_Apply.calls kj19 _ _ t328 _ _ t332 t336 t337 _ ?side1 ?side2 ?side3 ?side4 A35.out).mono ?_); (case side1 => exact cr_ HO331); (case side2 => exact (Kd.R_reads' HO331.out).2.1); (case side3 => exact cr_ HO335); (case side4 => exact (Kd.R_reads' HO335.out).2.1); rintro e w47 ⟨v338, rfl, ho0, hb⟩; refine ⟨_, rfl, ?_⟩; have HO339 := Aside0.mk (Kd.R_lower (Kd.R_new' (Kd.R_new' ho0 (Kd.R_lt (ra_ HO_19))) (Kd.R_lt (ra_ HO331))) (below_size bel_)); replace HO_19 := Aside0.mk (Kd.R_elder' (ra_ HO_19) (Kd.R_base ho0) hb); replace HO327 := rb_ HO327 hb; replace HO331 := Aside0.mk (Kd.R_elder' (ra_ HO331) (Kd.R_base ho0) hb); replace HO335 := rb_ HO335 hb; replace HB := hb_ hb; (try clear hb); (try clear hb2); (try clear hk); (try clear hi); (try clear ho0); obtain ⟨Ao48, co48, eo48⟩ := Kd.R_slice HO_19.out; subst eo48; obtain ⟨Ao49, co49, eo49⟩ := Kd.R_slice HO339.out; subst eo49) | (go_at_call 13; (with_reducible refine (cambiumref04_Same.calls kj19 _ _ t320 _ _ t336 t340 _ ?side1 ?side2 ?side3 ?side4 A40.out).mono ?_); (case side1 => exact cr_ HO_19); (case side2 => exact (Kd.R_reads' HO_19.out).2.1); (case side3 => exact cr_ HO339); (case side4 => exact (Kd.R_reads' HO339.out).2.1); rintro e w' ⟨rfl, ⟨nd, rfl⟩⟩))
                    go_ret
                    exact ⟨by first | rfl | (simp [errW_none, errW_some] <;> rfl) | (simp [*, errW_none, errW_some] <;> rfl), bel_⟩
                  rw [if_neg c39] at H
                  have c39b0 : (t337 == 0) = false := beq_eq_false_iff_ne.mpr c39
                  have c39b1 : (t337 != 0) = true := bne_iff_ne.mpr c39
                  exact absurd ((Option.some.inj H).trans HT_.out) (by simp)
                rw [if_neg c38] at H
                have c38b0 : (t333 == 0) = false := beq_eq_false_iff_ne.mpr c38
                have c38b1 : (t333 != 0) = true := bne_iff_ne.mpr c38
                exact absurd ((Option.some.inj H).trans HT_.out) (by simp)
              rw [if_neg c37] at H
              have c37b0 : (t329 == 0) = false := beq_eq_false_iff_ne.mpr c37
              have c37b1 : (t329 != 0) = true := bne_iff_ne.mpr c37
              exact absurd ((Option.some.inj H).trans HT_.out) (by simp)
            rw [if_neg c36] at H
            have c36b0 : (t325 == 0) = false := beq_eq_false_iff_ne.mpr c36
            have c36b1 : (t325 != 0) = true := bne_iff_ne.mpr c36
            exact absurd ((Option.some.inj H).trans HT_.out) (by simp)
  replace c8 := Bool.eq_false_iff.mpr c8
  subst c8
  have H1 : (some false) = some r := by rw [if_neg (show ¬ (false = true) by decide)] at H; exact H
  clear H
  have H := H1
  clear H1
  exact absurd ((Option.some.inj H).trans HT_.out) (by simp)

end Go.Proofs.YtnngbhdofgodiaaGreatDoor.Z
end

section
/- DataApart, over lists: the law's function answers true. -/
namespace Go.Proofs.YtnngbhdofgodiaaGreatDoor.Pure
open Go.RowKit Go.Proofs.YtnngbhdofgodiaaGreatDoor Go.Proofs.YtnngbhdofgodiaaGreatDoor.Z Go.Proofs.YtnngbhdofgodiaaGreatDoorW.PrintWords Go.Proofs.YtnngbhdofgodiaaGreatDoor.PM
set_option linter.unusedVariables false
set_option linter.unusedSimpArgs false
theorem sumI_DataApart (l : List It) : l.length ≤ (l.map Z.B54).sum := by
  induction l with
  | nil => simp
  | cons x l ih => simp only [List.map_cons, List.sum_cons, List.length_cons]; unfold Z.B54 at *; omega
theorem da_writeS_len (l : List It) (ino : Int) {off : Int} (h : 0 ≤ off) (s : ByteArray) : (writeS l ino off s).1.length ≤ 513 := by
  by_cases hok : okL l = true ∧ ino ≠ 0 ∧ off + s.size ≤ 65536
  · have hz := sizeL s
    rw [writeS_ok hok.1 hok.2.1 h hok.2.2]
    exact wrC_len l ino (by omega)
  · obtain ⟨e, h1, _⟩ := writeS_bad hok
    rw [h1]
    simp
theorem da_aplS_len (l : List It) (cs : List Ch) : (aplS l cs).1.length ≤ l.length + cs.length := by
  unfold aplS
  split
  · exact apl_len cs l
  · simp
theorem da_ext {x y : List It} (hx : Asc x) (hy : Asc y) (h : ∀ k, lk x k = lk y k) : x = y := by
  refine look_ext hx hy (fun k => ?_)
  have e : (fun v : ByteArray => v.toList) = (fun v => v.data.toList) := funext (fun v => ByteArray.toList_eq v)
  have := h k
  unfold lk at this
  rw [e]
  exact this
theorem da_lk {l : List It} (hk : okL l = true) {ino : Int} (hi : 0 < ino ∧ ino < 4294967296) {p : Nat} {s : List UInt8} (h : p + s.length ≤ 65536) {j : Nat} (hj : j < 512) :
    lk (apl l (wrC l ino p s)) (kc ino j) = if j ∈ js p s.length then opt (laidT l ino p s j) else lk l (kc ino j) := by
  obtain ⟨h1, h2⟩ := wrC_done hk hi h
  by_cases hm : j ∈ js p s.length
  · rw [if_pos hm, h1 j hm]
  · rw [if_neg hm]
    exact lk_eq (h2 _ (fun j2 hj2 e => hm ((kc_inj hi hi (js_lt h hj2) hj e).2 ▸ hj2)))
theorem da_laid {l m : List It} {ino : Int} {f : Nat → UInt8} (hB : ∀ q, q < 65536 → byteD m ino q = f q) (p : Nat) (s : List UInt8) {j : Nat} (hj : j < 512) : laidT m ino p s j = trimB (ba (chunkF (layF f p s) j)) := by
  unfold laidT
  rw [chunkF_congr (fun q hq => ?_)]
  have := hB q (by omega)
  unfold layF
  rw [this]
theorem da_off {f : Nat → UInt8} {p : Nat} {s : List UInt8} {j : Nat} (hj : j ∉ js p s.length) {q : Nat} (hq : q / 128 = j) : layF f p s q = f q := by
  unfold layF
  rw [if_neg (fun h => hj ((js_mem _ _ _).2 ⟨q, h.1, h.2, hq⟩))]
theorem da_swap (f : Nat → UInt8) {a b : Nat} {s t : List UInt8} (h : a + s.length ≤ b) (q : Nat) : layF (layF f a s) b t q = layF (layF f b t) a s q := by
  unfold layF
  by_cases h1 : a ≤ q ∧ q < a + s.length
  · rw [if_neg (by omega), if_pos h1, if_pos h1]
  · rw [if_neg h1, if_neg h1]
theorem da_same {l : List It} (hk : okL l = true) {ino : Int} (hi : 0 < ino ∧ ino < 4294967296) {a b : Nat} {s t : List UInt8} (h : a + s.length ≤ b) (hb : b + t.length ≤ 65536) :
    apl (apl l (wrC l ino a s)) (wrC (apl l (wrC l ino a s)) ino b t) = apl (apl l (wrC l ino b t)) (wrC (apl l (wrC l ino b t)) ino a s) := by
  have ha : a + s.length ≤ 65536 := by omega
  have k1 := apl_ok hk (wrC_okC l hi ha)
  have k2 := apl_ok hk (wrC_okC l hi hb)
  have b1 := fun (q : Nat) (hq : q < 65536) => wrC_byte hk hi ha hq
  have b2 := fun (q : Nat) (hq : q < 65536) => wrC_byte hk hi hb hq
  have l1 := fun (j : Nat) (hj : j < 512) => da_lk hk hi ha hj
  have l2 := fun (j : Nat) (hj : j < 512) => da_lk hk hi hb hj
  have o1 := (wrC_done hk hi ha).2
  have o2 := (wrC_done hk hi hb).2
  generalize apl l (wrC l ino a s) = m at k1 b1 l1 o1 ⊢
  generalize apl l (wrC l ino b t) = n at k2 b2 l2 o2 ⊢
  refine da_ext ((okL_iff _).1 (apl_ok k1 (wrC_okC m hi hb))).2 ((okL_iff _).1 (apl_ok k2 (wrC_okC n hi ha))).2 (fun k => ?_)
  by_cases hkc : ∃ j, j < 512 ∧ k = kc ino j
  · obtain ⟨j, hj, rfl⟩ := hkc
    rw [da_lk k1 hi hb hj, da_lk k2 hi ha hj, l1 j hj, l2 j hj, da_laid (l := l) b1 b t hj, da_laid (l := l) b2 a s hj]
    by_cases js1 : j ∈ js a s.length
    · by_cases js2 : j ∈ js b t.length
      · rw [if_pos js2, if_pos js1, chunkF_congr (g := layF (layF (byteD l ino) b t) a s) (fun q _ => da_swap _ h q)]
      · rw [if_pos js1, if_neg js2, if_pos js1]
        unfold laidT
        rw [chunkF_congr (f := layF (byteD l ino) a s) (g := layF (layF (byteD l ino) b t) a s) (fun q hq => by
          have := da_off (f := byteD l ino) js2 hq
          unfold layF at this ⊢
          rw [this])]
    · by_cases js2 : j ∈ js b t.length
      · rw [if_pos js2, if_neg js1, if_pos js2]
        unfold laidT
        rw [chunkF_congr (f := layF (layF (byteD l ino) a s) b t) (g := layF (byteD l ino) b t) (fun q hq => by
          have := da_off (f := byteD l ino) js1 hq
          unfold layF at this ⊢
          rw [this])]
      · rw [if_neg js1, if_neg js2, if_neg js1, if_neg js2]
  · have q1 : ∀ (p : Nat) (u : List UInt8), p + u.length ≤ 65536 → ∀ j ∈ js p u.length, kc ino j ≠ k := fun p u hp j hj e => hkc ⟨j, js_lt hp hj, e.symm⟩
    rw [lk_eq ((wrC_done k1 hi hb).2 k (q1 b t hb)), lk_eq ((wrC_done k2 hi ha).2 k (q1 a s ha)), lk_eq (o1 k (q1 a s ha)), lk_eq (o2 k (q1 b t hb))]
theorem DataApart : ∀ (l0 : List (S54)) (a1 : Int) (a2 : Int) (a3 : Int) (a4 : ByteArray) (a5 : ByteArray), l0.length ≤ maxLen → (∀ x ∈ l0, Z.G54 x) → (Lit.int .u32 a1).wf = true → (Lit.int .u32 a2).wf = true → (Lit.int .u32 a3).wf = true → a4.size ≤ maxLen → a5.size ≤ maxLen → ((l0.map Z.B54).sum + 1) + 1 + 1 + 1 + (a4.size + 1) + (a5.size + 1) ≤ 1048576 → ∃ k, Z.cambiumlaw13_DataApart.f k l0 a1 a2 a3 a4 a5 = some true := by
  intro l ino a b s t _ _ w1 w2 w3 _ _ hs
  have hl := sumI_DataApart l
  have hi := wf32 w1
  have ha := wf32 w2
  have hb := wf32 w3
  refine Ev.rounds ?_
  unfold cambiumlaw13_DataApart.f
  refine Ev.bind lives_f (Ev.ifp rfl ?_)
  have out : Ev (fun k => cambiumlaw13_DataApart.j0 k l ino a b s t true) true := Ev.step (fun n => by rw [cambiumlaw13_DataApart.j0]) (Ev.ifp rfl (Ev.const rfl))
  refine Ev.ite (fun _ => out) (fun g1 => Ev.ite (fun _ => out) (fun g2 => Ev.ite (fun _ => out) (fun g3 => Ev.ite (fun _ => out) (fun g4 => ?_))))
  rw [iu64w (i := a) (by omega) (by omega), iu64w (i := (s.size : Int)) (by omega) (by omega), iu64w (i := b) (by omega) (by omega), iu64w (i := a + s.size) (by omega) (by omega)]
  by_cases g5 : a + s.size > b
  · rw [decide_eq_true g5]
    exact out
  · rw [decide_eq_false g5]
    have hzs := sizeL s
    have hzt := sizeL t
    refine Ev.step (fun n => by rw [cambiumlaw13_DataApart.j0]) (Ev.ifn (by decide) ?_)
    by_cases hok : okL l = true ∧ ino ≠ 0
    · obtain ⟨hk, h0⟩ := hok
      have hi' : 0 < ino ∧ ino < 4294967296 := ⟨by omega, hi.2⟩
      have pa : a.toNat + s.data.toList.length ≤ 65536 := by omega
      have pb : b.toNat + t.data.toList.length ≤ 65536 := by omega
      have hsame := da_same hk hi' (a := a.toNat) (b := b.toNat) (s := s.data.toList) (t := t.data.toList) (by omega) pb
      have c1 := wrC_okC l hi' pa
      have c2 := wrC_okC l hi' pb
      have n1 := wrC_len l ino pa
      have n2 := wrC_len l ino pb
      have m1 := apl_len (wrC l ino a.toNat s.data.toList) l
      have m2 := apl_len (wrC l ino b.toNat t.data.toList) l
      have k1 := apl_ok hk c1
      have k2 := apl_ok hk c2
      refine Ev.bind (Ev.val (data_Write_f l (by omega) s hi ha (by omega)) (writeS_ok hk h0 ha.1 (by omega))) ?_
      refine Ev.bind (Ev.val (itApply l _ (by show l.length + (wrC l ino a.toNat s.data.toList).length ≤ _; omega)) (aplS_ok hk c1)) ?_
      refine Ev.bind (Ev.val (data_Write_f (apl l (wrC l ino a.toNat s.data.toList)) (by omega) t hi hb (by omega)) (writeS_ok k1 h0 hb.1 (by omega))) ?_
      have n3 := wrC_len (apl l (wrC l ino a.toNat s.data.toList)) ino pb
      have c3 := wrC_okC (apl l (wrC l ino a.toNat s.data.toList)) hi' pb
      refine Ev.bind (Ev.val (itApply (apl l (wrC l ino a.toNat s.data.toList)) (wrC (apl l (wrC l ino a.toNat s.data.toList)) ino b.toNat t.data.toList) (by omega)) (aplS_ok k1 c3)) ?_
      refine Ev.ifp rfl (Ev.ifp rfl (Ev.ifp rfl (Ev.step (fun n => by rw [cambiumlaw13_DataApart.j1]) (Ev.ifn (by simp) ?_))))
      refine Ev.bind (Ev.val (data_Write_f l (by omega) t hi hb (by omega)) (writeS_ok hk h0 hb.1 (by omega))) ?_
      refine Ev.bind (Ev.val (itApply l _ (by show l.length + (wrC l ino b.toNat t.data.toList).length ≤ _; omega)) (aplS_ok hk c2)) ?_
      refine Ev.bind (Ev.val (data_Write_f (apl l (wrC l ino b.toNat t.data.toList)) (by omega) s hi ha (by omega)) (writeS_ok k2 h0 ha.1 (by omega))) ?_
      have n4 := wrC_len (apl l (wrC l ino b.toNat t.data.toList)) ino pa
      have c4 := wrC_okC (apl l (wrC l ino b.toNat t.data.toList)) hi' pa
      refine Ev.bind (Ev.val (itApply (apl l (wrC l ino b.toNat t.data.toList)) (wrC (apl l (wrC l ino b.toNat t.data.toList)) ino a.toNat s.data.toList) (by omega)) (aplS_ok k2 c4)) ?_
      refine Ev.ifp rfl (Ev.ifp rfl (Ev.ifp rfl (Ev.ifp rfl ?_)))
      dsimp only
      have m4 := apl_len (wrC (apl l (wrC l ino b.toNat t.data.toList)) ino a.toNat s.data.toList) (apl l (wrC l ino b.toNat t.data.toList))
      rw [hsame]
      exact Ev.bind (same_refl _ (by omega)) (Ev.const rfl)
    · obtain ⟨e, h1, h2⟩ := writeS_bad (l := l) (ino := ino) (off := a) (s := s) (fun h => hok ⟨h.1, h.2.1⟩)
      refine Ev.bind (Ev.val (data_Write_f l (by omega) s hi ha (by omega)) h1) ?_
      have hq := da_aplS_len l []
      have hw := da_writeS_len (aplS l []).1 ino hb.1 t
      refine Ev.bind (itApply l [] (by show l.length + 0 ≤ _; omega)) ?_
      refine Ev.bind (data_Write_f (aplS l []).1 (by simp at hq; omega) t hi hb (by omega)) ?_
      refine Ev.bind (itApply (aplS l []).1 (writeS (aplS l []).1 ino b t).1 (by simp at hq; omega)) ?_
      refine Ev.ifn h2 (Ev.step (fun n => by rw [cambiumlaw13_DataApart.j1]) (Ev.ifp rfl (Ev.const ?_)))
      simp [h2]
end Go.Proofs.YtnngbhdofgodiaaGreatDoor.Pure
end

section
/- cambium/cambiumlaw13.DataApart: at every input the law's function returns true, and each argument reads afterwards as before. Conditions: none beyond the row's own, and that the arguments are of bulk at most 1048576. Printed by a program of this session (mp.py) over the pure statement in YtnngbhdofgodiaaGreatDoorPureDataApart. -/
namespace Go.Proofs.YtnngbhdofgodiaaGreatDoor.dataApart
open Go.ChangeShapes Go.WideShapes Go.ChangeAt Go.RowKit
open Go.ChangeMaps (open_string shut_string)
set_option linter.unusedVariables false
set_option linter.unusedSimpArgs false
theorem own : ownKnob Tryz.prog.godebug = none := by kernel_rfl
theorem laidOut : laidOutB Tryz.prog = true := by kernel_rfl
def lay0 : Obj → Obj
  | .cells _ t frozen => .cells (((Pinned.numbers IntKind.u8 Pinned.utf8FirstZ : List (DataW Unit)).map (fun x => match x with | .lit (.int k v) => Value.int k v | _ => .int .u8 0)).toArray) t frozen
  | o => o
def lay1 : Obj → Obj
  | .cells _ t frozen => .cells #[.int .u8 128, .int .u8 191, .int .u8 160, .int .u8 191, .int .u8 128, .int .u8 159, .int .u8 144, .int .u8 191, .int .u8 128, .int .u8 143, .int .u8 0, .int .u8 0, .int .u8 0, .int .u8 0, .int .u8 0, .int .u8 0, .int .u8 0, .int .u8 0, .int .u8 0, .int .u8 0, .int .u8 0, .int .u8 0, .int .u8 0, .int .u8 0, .int .u8 0, .int .u8 0, .int .u8 0, .int .u8 0, .int .u8 0, .int .u8 0, .int .u8 0, .int .u8 0] t frozen
  | o => o
noncomputable def laidWorld (os : Os) : World :=
  { World.holding Tryz.prog os ⟨#[], #[], []⟩ with heap := ((World.holding Tryz.prog os ⟨#[], #[], []⟩).heap.modify 0 lay0).modify 1 lay1 }
theorem laid_met (os : Os) : laidMet Tryz.prog Rows.dataApartUptoRow.laid ((laidWorld os).forCall (fun _ _ => 0) ⟨#[], #[.slice none 0 0, .int .u32 0, .int .u32 0, .int .u32 0, .string ByteArray.empty, .string ByteArray.empty], []⟩).memory :=
  laidMet_of_run' 8 (by kernel_rfl) (by kernel_rfl)
theorem reads (os : Os) {H : Type} (enc : TypeId × Value → H) : ∃ places, DataW.whole enc Tryz.prog ((laidWorld os).forCall (fun _ _ => 0) ⟨#[], #[.slice none 0 0, .int .u32 0, .int .u32 0, .int .u32 0, .string ByteArray.empty, .string ByteArray.empty], []⟩).memory Tryz.f6.params.toList Rows.dataApartSpec.vars false (#[.slice none 0 0, .int .u32 0, .int .u32 0, .int .u32 0, .string ByteArray.empty, .string ByteArray.empty] : Array Value).toList 8 = some ([.nil, .lit (.int .u32 0), .lit (.int .u32 0), .lit (.int .u32 0), .lit (.string []), .lit (.string [])], [], places) :=
  ⟨[], by kernel_rfl⟩
set_option maxHeartbeats 1000000 in
set_option maxRecDepth 100000 in
theorem lifted (os : Os) (started : os.Started) (H : Type) (enc : TypeId × Value → H) (F : Stop.Interp) :
    ReturnsInHanded {} Tryz.checked os 6 .any ((Rows.OpenSpec.upto Rows.dataApartSpec).preRow enc Tryz.prog Tryz.f6 Rows.dataApartUptoRow.domain false Rows.dataApartUptoRow.laid) (((Rows.OpenSpec.upto Rows.dataApartSpec).at F).post enc Tryz.prog Tryz.f6 false true false false) := by
  obtain ⟨places, hx⟩ := reads os enc
  refine returnsInHanded_of_row (C := Tryz.checked) (s := Rows.OpenSpec.upto Rows.dataApartSpec) own started (by kernel_rfl) Tryz.func6
    (witness_row_at (enc := enc) (C := Tryz.checked) false (laidWorld os) #[.slice none 0 0, .int .u32 0, .int .u32 0, .int .u32 0, .string ByteArray.empty, .string ByteArray.empty] rfl (by kernel_rfl) (by kernel_rfl) (by kernel_rfl)
      (OpenSpec.preRow_of_cond 8 hx (by kernel_rfl) (fun k hk => by obtain rfl := Option.some.inj hk; kernel_rfl) (by kernel_rfl) (laid_met os))) ?_
  intro W base args ds gs before hval0 hW hcn0_ hcnd hwz_ _ _ _
  have hk0 := hcnd Rows.uptoSmall rfl
  have hsz : (DataW.weightsEach Tryz.prog (Tryz.f6.params.toList ++ Rows.dataApartSpec.plain.varTypes Tryz.prog) (ds ++ gs)).all (· ≤ reachBytes) = true := hwz_
  have hval : ∀ (j : Nat) t v, Tryz.f6.params[j]? = some t → args[j]? = some v → Value.okWide Tryz.prog W .any base t v := hval0
  have hW' := hW
  obtain ⟨p, q, hA0, hV, rfl, hfz, hnd⟩ := hW
  have hA : DataW.TrodAll enc Tryz.prog W 0 (fun _ => true) true Tryz.f6.params.toList args.toList ds p := hA0
  rw [Tryz.params6] at hA hval hsz
  obtain ⟨v0, vs0, d0, ds0, p0, q0, hargs, rfl, rfl, h0, r0⟩ := trodAll_cons hA
  obtain ⟨v1, vs1, d1, ds1, p1, q1, rfl, rfl, rfl, h1, r1⟩ := trodAll_cons r0
  obtain ⟨v2, vs2, d2, ds2, p2, q2, rfl, rfl, rfl, h2, r2⟩ := trodAll_cons r1
  obtain ⟨v3, vs3, d3, ds3, p3, q3, rfl, rfl, rfl, h3, r3⟩ := trodAll_cons r2
  obtain ⟨v4, vs4, d4, ds4, p4, q4, rfl, rfl, rfl, h4, r4⟩ := trodAll_cons r3
  obtain ⟨v5, vs5, d5, ds5, p5, q5, rfl, rfl, rfl, h5, r5⟩ := trodAll_cons r4
  obtain ⟨rfl, rfl, rfl⟩ := trodAll_nil r5
  obtain rfl : args = #[v0, v1, v2, v3, v4, v5] := by cases args; simp_all
  obtain ⟨rfl, rfl⟩ := trodVars_none hV
  have k0 := h0
  have lt0 : ∀ x ∈ p0, x.block < W.heap.size := by obtain ⟨m, hm⟩ := k0; exact DataW.trod_lt m _ _ _ hm
  obtain ⟨a0, len0, cap0, rfl⟩ := okWide_slice Tryz.underlying22 (hval 0 22 v0 rfl rfl)
  obtain ⟨fuel0, hf0⟩ := h0
  obtain ⟨A0, c0, l0, hcs0, hlc0, hcm0, hC0, hG0, hB0, hx0⟩ := Z.Opens.row Tryz.underlying22 Z.opens54 (of_decide_eq_true (by kernel_rfl)) hf0
  simp only [Value.cells, List.cons.injEq, Value.slice.injEq, and_true] at hcs0
  obtain ⟨rfl, rfl, rfl⟩ := hcs0
  have hlm0 : l0.length ≤ maxLen := Nat.le_trans hlc0 hcm0
  have k1 := h1
  have lt1 : ∀ x ∈ p1, x.block < W.heap.size := by obtain ⟨m, hm⟩ := k1; exact DataW.trod_lt m _ _ _ hm
  obtain ⟨a1, rfl, rfl, rfl, w1⟩ := open_int Tryz.underlying23 (hval 1 23 v1 rfl rfl) h1
  have k2 := h2
  have lt2 : ∀ x ∈ p2, x.block < W.heap.size := by obtain ⟨m, hm⟩ := k2; exact DataW.trod_lt m _ _ _ hm
  obtain ⟨a2, rfl, rfl, rfl, w2⟩ := open_int Tryz.underlying23 (hval 2 23 v2 rfl rfl) h2
  have k3 := h3
  have lt3 : ∀ x ∈ p3, x.block < W.heap.size := by obtain ⟨m, hm⟩ := k3; exact DataW.trod_lt m _ _ _ hm
  obtain ⟨a3, rfl, rfl, rfl, w3⟩ := open_int Tryz.underlying23 (hval 3 23 v3 rfl rfl) h3
  have k4 := h4
  have lt4 : ∀ x ∈ p4, x.block < W.heap.size := by obtain ⟨m, hm⟩ := k4; exact DataW.trod_lt m _ _ _ hm
  obtain ⟨a4, rfl, rfl, rfl, y4⟩ := open_string Tryz.underlying9 (hval 4 9 v4 rfl rfl) h4
  have w4 := y4
  have k5 := h5
  have lt5 : ∀ x ∈ p5, x.block < W.heap.size := by obtain ⟨m, hm⟩ := k5; exact DataW.trod_lt m _ _ _ hm
  obtain ⟨a5, rfl, rfl, rfl, y5⟩ := open_string Tryz.underlying9 (hval 5 9 v5 rfl rfl) h5
  have w5 := y5
  have hbk : ((l0.map Z.B54).sum + 1) + 1 + 1 + 1 + (a4.size + 1) + (a5.size + 1) ≤ 1048576 := by
    have hb_ := of_decide_eq_true hk0
    simp only [Rows.uptoBulkAll, Rows.uptoBulk, List.append_nil, Array.length_toList, List.map_cons, List.map_nil] at hb_
    (try simp only [show ∀ s : ByteArray, s.data.size = s.size from fun _ => rfl] at hb_)
    (try dsimp only at hB0)
    omega
  have hP := Pure.DataApart l0 a1 a2 a3 a4 a5 hlm0 hG0 w1 w2 w3 w4 w5 hbk
  obtain ⟨k, hk⟩ := hP
  refine (Z.cambiumlaw13_DataApart.calls k _ _ l0 a1 a2 a3 a4 a5 true W hC0 hlc0 hk).mono fun e W' ⟨he, bel0⟩ => ?_
  have bel : Below W.heap.size W W' := bel0
  subst he
  exact ⟨_, rfl, _, _, _, [], _, [], hW', trodAll_mk1 (shut_bool Tryz.underlying4 _), (trodAll_cons_mk (Below.trod laidOut (by kernel_rfl) (of_decide_eq_true (by kernel_rfl)) k0 bel lt0) (trodAll_cons_mk (Below.trod laidOut (by kernel_rfl) (of_decide_eq_true (by kernel_rfl)) k1 bel lt1) (trodAll_cons_mk (Below.trod laidOut (by kernel_rfl) (of_decide_eq_true (by kernel_rfl)) k2 bel lt2) (trodAll_cons_mk (Below.trod laidOut (by kernel_rfl) (of_decide_eq_true (by kernel_rfl)) k3 bel lt3) (trodAll_cons_mk (Below.trod laidOut (by kernel_rfl) (of_decide_eq_true (by kernel_rfl)) k4 bel lt4) (trodAll_cons_mk (Below.trod laidOut (by kernel_rfl) (of_decide_eq_true (by kernel_rfl)) k5 bel lt5) trodAll_mk0)))))), rfl, bel.frame _, fun h => by cases h⟩
theorem over : Rows.DataApartUptoSaid :=
  OpenClaim.holds_of_cond 6 Tryz.f6 rfl rfl rfl rfl rfl rfl rfl ⟨rfl, rfl, rfl, rfl, rfl⟩ rfl rfl rfl rfl rfl (by kernel_rfl) Tryz.func6 (by kernel_rfl)
    (of_decide_eq_true (by kernel_rfl)) (by unfold Func.isWrapper; first | (rw [if_pos (by decide +kernel)]; kernel_rfl) | (rw [if_neg (by decide +kernel)]; exact ⟨rfl, rfl⟩))
    (fun os started H enc _ F => by rw [OpenClaim.pre_eq_preRow]; exact lifted os started H enc F)
theorem plain (f : FuncId) (fn : Func) (hf : Tryz.pinned.checked.prog.funcNamed "cambium/cambiumlaw13.DataApart" = some f) (hfn : Tryz.pinned.checked.prog.funcs[f]? = some fn) :
    false = Tryz.pinned.checked.prog.looks [] ∧ ∀ (j : Nat) t, fn.params[j]? = some t → Tryz.pinned.checked.prog.wantsStandIn t = false := by
  obtain rfl : f = 6 := Option.some.inj ((show Tryz.prog.funcNamed "cambium/cambiumlaw13.DataApart" = some 6 by kernel_rfl).symm.trans hf) |>.symm
  obtain rfl : fn = Tryz.f6 := (Option.some.inj (Tryz.func6.symm.trans hfn)).symm
  refine ⟨by kernel_rfl, fun j t ht => ?_⟩
  rw [Tryz.params6] at ht
  have hm := Array.mem_of_getElem? ht
  simp only [List.mem_toArray, List.mem_cons, List.not_mem_nil, or_false] at hm
  rcases hm with rfl | rfl | rfl | rfl | rfl | rfl <;> exact (show Tryz.prog.wantsStandIn _ = false by kernel_rfl)
theorem card : Rows.DataApartUptoCardSaid :=
  Claim7.holds_tied_plain_at .later [] _ _ _ _ over (fun _ h => by cases h) (by kernel_rfl) (fun _ h => by cases h) dataApartUpto_row_tie rfl ⟨rfl, rfl⟩ (by kernel_rfl) rfl plain (by kernel_rfl)
end Go.Proofs.YtnngbhdofgodiaaGreatDoor.dataApart
namespace Go.Proofs.YtnngbhdofgodiaaGreatDoor
theorem dataApart_holds : Rows.DataApartUptoCardSaid := dataApart.card
#print axioms dataApart_holds
end Go.Proofs.YtnngbhdofgodiaaGreatDoor
end
