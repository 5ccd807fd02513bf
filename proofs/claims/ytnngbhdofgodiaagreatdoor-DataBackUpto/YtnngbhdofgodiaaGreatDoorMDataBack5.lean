/- DataBackUpto: at every input the law's function returns true and leaves its arguments as they were; condition: the arguments are of bulk at most 1048576. Part 5 of 5: this session's own texts, laid together. -/
import Derived.Test.YtnngbhdofgodiaaGreatDoorMB1
import Derived.Test.YtnngbhdofgodiaaGreatDoorMB2
import Derived.Test.YtnngbhdofgodiaaGreatDoorMB4
import Derived.Test.YtnngbhdofgodiaaGreatDoorMB3
import Derived.Test.YtnngbhdofgodiaaGreatDoorCards
import Derived.Test.YtnngbhdofgodiaaGreatDoorTie
import Derived.Deep.DeepHandedRow
import Derived.WalkKit
import Derived.ProofKit
import Derived.OpenShut
import Derived.ShutString
import Derived.ChangeOld
import Derived.Below
import Derived.SizedLaws
import Derived.Carry
import Derived.JoinedCond
import Derived.Deep.CondSized
section
-- Printed by a program of this session (mp.py) out of the translation.
namespace Go.Proofs.YtnngbhdofgodiaaGreatDoor.Z
open Go.RowKit Go.Proofs.YtnngbhdofgodiaaGreatDoorW.PrintWords Go.Proofs.YtnngbhdofgodiaaGreatDoorW.PrintLast Go.Proofs.YtnngbhdofgodiaaGreatDoorW.PrintMore
attribute [local go_sem] max2_int min2_int max_two min_two max_three min_three max_four min_four   -- for this text's walks alone
set_option linter.unusedVariables false
set_option linter.unusedSimpArgs false

/-! ### cambiumlaw13_DataBack: function 3 -/
def cambiumlaw13_DataBack.j0 : Nat → List (S54) → Int → Int → ByteArray → Int → Int → List (S54) → Bool → Option (Bool)
  | 0, _, _, _, _, _, _, _, _ => none
  | k + 1, x0, x1, x2, x3, x4, x5, x15, x68 => if x68 = true then (some false) else ((data_Read.f k x0 x4 65536 (Int.tmod x5 65536) 1).bind fun bt265 => ((data_Read.f k x15 x4 65536 (Int.tmod x5 65536) 1).bind fun bt267 => (if x4 = x1 then (if (Int.tmod x5 65536) ≥ x2 then ((data_Write.f k x15 x1 x2 x3).bind fun bt269 => (if bt265.2 = bt267.2 then (if (((Int.tmod x5 65536) - x2) % 4294967296) < (((x3.size : Int)) % 4294967296) then (if bt269.2 = 0 then (some ((bt269.1.length : Int) == 0)) else (some false)) else (if bt265.1.toList = bt267.1.toList then (if bt269.2 = 0 then (some ((bt269.1.length : Int) == 0)) else (some false)) else (some false))) else (some false))) else ((data_Write.f k x15 x1 x2 x3).bind fun bt273 => (if bt265.2 = bt267.2 then (if bt265.1.toList = bt267.1.toList then (if bt273.2 = 0 then (some ((bt273.1.length : Int) == 0)) else (some false)) else (some false)) else (some false)))) else ((data_Write.f k x15 x1 x2 x3).bind fun bt277 => (if bt265.2 = bt267.2 then (if bt265.1.toList = bt267.1.toList then (if bt277.2 = 0 then (some ((bt277.1.length : Int) == 0)) else (some false)) else (some false)) else (some false))))))
def cambiumlaw13_DataBack.f (k : Nat) (l0 : List (S54)) (a1 : Int) (a2 : Int) (a3 : ByteArray) (a4 : Int) (a5 : Int) : Option (Bool) := (cambiumlaw13_lives.f k).bind fun t254 => (if t254 = true then ((data_Write.f k l0 a1 a2 a3).bind fun bt255 => (if bt255.2 = 0 then ((item_Apply.f k l0 bt255.1).bind fun bt259 => ((data_Read.f k bt259.1 a1 65536 a2 (((a3.size : Int)) % 4294967296)).bind fun bt263 => (if bt259.2 = 0 then (if bt263.2 = 0 then (cambiumlaw13_DataBack.j0 k l0 a1 a2 a3 a4 a5 bt259.1 (bt263.1.toList != a3.toList)) else (cambiumlaw13_DataBack.j0 k l0 a1 a2 a3 a4 a5 bt259.1 true)) else (cambiumlaw13_DataBack.j0 k l0 a1 a2 a3 a4 a5 bt259.1 true)))) else (some ((bt255.1.length : Int) == 0)))) else (some false))
theorem cambiumlaw13_DataBack.mono_l : ∀ k, (∀ y0 y1 y2 y3 y4 y5 y6 y7, LeO (cambiumlaw13_DataBack.j0 k y0 y1 y2 y3 y4 y5 y6 y7) (cambiumlaw13_DataBack.j0 (k + 1) y0 y1 y2 y3 y4 y5 y6 y7))
  | 0 => fun _ _ _ _ _ _ _ _ r h => by simp [cambiumlaw13_DataBack.j0] at h
  | k + 1 => by
    have ih0 := cambiumlaw13_DataBack.mono_l k
    · intro y0 y1 y2 y3 y4 y5 y6 y7
      unfold cambiumlaw13_DataBack.j0
      repeat' first
      | (with_reducible exact ih0 _ _ _ _ _ _ _ _)
      | (with_reducible exact cambiumlaw13_lives.mono _)
      | (with_reducible exact data_Read.mono _ _ _ _ _ _)
      | (with_reducible exact data_Write.mono _ _ _ _ _)
      | (with_reducible exact item_Apply.mono _ _ _)
      | (with_reducible exact LeO.refl _)
      | (with_reducible exact LeO.none _)
      | (with_reducible refine LeO.ite ?_ ?_)
      | (with_reducible refine LeO.bind ?_ (fun _ => ?_))
      | exact ih0 _ _ _ _ _ _ _ _
      | exact cambiumlaw13_lives.mono _
      | exact data_Read.mono _ _ _ _ _ _
      | exact data_Write.mono _ _ _ _ _
      | exact item_Apply.mono _ _ _
      | exact LeO.none _
      | refine LeO.ite ?_ ?_
      | refine LeO.bind ?_ (fun _ => ?_)
theorem cambiumlaw13_DataBack.mono : ∀ a0 a1 a2 a3 a4 a5 k, LeO (cambiumlaw13_DataBack.f k a0 a1 a2 a3 a4 a5) (cambiumlaw13_DataBack.f (k + 1) a0 a1 a2 a3 a4 a5) := by
  intro a0 a1 a2 a3 a4 a5 k
  have ih0 := cambiumlaw13_DataBack.mono_l k
  unfold cambiumlaw13_DataBack.f
  repeat' first
      | (with_reducible exact ih0 _ _ _ _ _ _ _ _)
      | (with_reducible exact cambiumlaw13_lives.mono _)
      | (with_reducible exact data_Read.mono _ _ _ _ _ _)
      | (with_reducible exact data_Write.mono _ _ _ _ _)
      | (with_reducible exact item_Apply.mono _ _ _)
      | (with_reducible exact LeO.refl _)
      | (with_reducible exact LeO.none _)
      | (with_reducible refine LeO.ite ?_ ?_)
      | (with_reducible refine LeO.bind ?_ (fun _ => ?_))
      | exact ih0 _ _ _ _ _ _ _ _
      | exact cambiumlaw13_lives.mono _
      | exact data_Read.mono _ _ _ _ _ _
      | exact data_Write.mono _ _ _ _ _
      | exact item_Apply.mono _ _ _
      | exact LeO.none _
      | refine LeO.ite ?_ ?_
      | refine LeO.bind ?_ (fun _ => ?_)
set_option maxHeartbeats 8000000 in
set_option maxRecDepth 100000 in
theorem cambiumlaw13_DataBack.calls (k : Nat) (A0 : Option Addr) (c0 : Nat) (l0 : List (S54)) (a1 : Int) (a2 : Int) (a3 : ByteArray) (a4 : Int) (a5 : Int) (r : Bool) (w : World) (hr0 : Kd.C k54 w A0 l0.length l0) (hc0 : l0.length ≤ c0) (h : cambiumlaw13_DataBack.f k l0 a1 a2 a3 a4 a5 = some r) (hT_ : r = true := by rfl) :
    Calls Tryz.prog 3 #[.slice A0 l0.length c0, .int .u32 a1, .int .u32 a2, .string a3, .int .u32 a4, .int .u32 a5] w fun e w' => e = .returned (.bool r) ∧ Below w.heap.size w w' := by
  have HT_ := Aside0.mk hT_
  clear hT_
  have HR0 := Aside0.mk hr0
  have HC0 := Aside0.mk hc0
  clear hr0 hc0
  have HB := Aside0.mk (Below.refl w.heap.size w)
  have H : ((cambiumlaw13_lives.f k).bind fun t254 => (if t254 = true then ((data_Write.f k l0 a1 a2 a3).bind fun bt255 => (if bt255.2 = 0 then ((item_Apply.f k l0 bt255.1).bind fun bt259 => ((data_Read.f k bt259.1 a1 65536 a2 (((a3.size : Int)) % 4294967296)).bind fun bt263 => (if bt259.2 = 0 then (if bt263.2 = 0 then (cambiumlaw13_DataBack.j0 k l0 a1 a2 a3 a4 a5 bt259.1 (bt263.1.toList != a3.toList)) else (cambiumlaw13_DataBack.j0 k l0 a1 a2 a3 a4 a5 bt259.1 true)) else (cambiumlaw13_DataBack.j0 k l0 a1 a2 a3 a4 a5 bt259.1 true)))) else (some ((bt255.1.length : Int) == 0)))) else (some false))) = some r := h
  clear h
  replace H := Option.bind_eq_some_iff.mp H
  obtain ⟨t254, A70, H⟩ := H
  replace H : (if t254 = true then ((data_Write.f k l0 a1 a2 a3).bind fun bt255 => (if bt255.2 = 0 then ((item_Apply.f k l0 bt255.1).bind fun bt259 => ((data_Read.f k bt259.1 a1 65536 a2 (((a3.size : Int)) % 4294967296)).bind fun bt263 => (if bt259.2 = 0 then (if bt263.2 = 0 then (cambiumlaw13_DataBack.j0 k l0 a1 a2 a3 a4 a5 bt259.1 (bt263.1.toList != a3.toList)) else (cambiumlaw13_DataBack.j0 k l0 a1 a2 a3 a4 a5 bt259.1 true)) else (cambiumlaw13_DataBack.j0 k l0 a1 a2 a3 a4 a5 bt259.1 true)))) else (some ((bt255.1.length : Int) == 0)))) else (some false)) = some r := H
  have A7 := Aside0.mk A70
  clear A70
  by_cases c8 : t254 = true
  · subst c8
    have H1 : ((data_Write.f k l0 a1 a2 a3).bind fun bt255 => (if bt255.2 = 0 then ((item_Apply.f k l0 bt255.1).bind fun bt259 => ((data_Read.f k bt259.1 a1 65536 a2 (((a3.size : Int)) % 4294967296)).bind fun bt263 => (if bt259.2 = 0 then (if bt263.2 = 0 then (cambiumlaw13_DataBack.j0 k l0 a1 a2 a3 a4 a5 bt259.1 (bt263.1.toList != a3.toList)) else (cambiumlaw13_DataBack.j0 k l0 a1 a2 a3 a4 a5 bt259.1 true)) else (cambiumlaw13_DataBack.j0 k l0 a1 a2 a3 a4 a5 bt259.1 true)))) else (some ((bt255.1.length : Int) == 0)))) = some r := by rw [if_pos rfl] at H; exact H
    clear H
    have H := H1
    clear H1
    replace H := Option.bind_eq_some_iff.mp H
    obtain ⟨⟨t255, t256⟩, A90, H⟩ := H
    replace H : (if t256 = 0 then ((item_Apply.f k l0 t255).bind fun bt259 => ((data_Read.f k bt259.1 a1 65536 a2 (((a3.size : Int)) % 4294967296)).bind fun bt263 => (if bt259.2 = 0 then (if bt263.2 = 0 then (cambiumlaw13_DataBack.j0 k l0 a1 a2 a3 a4 a5 bt259.1 (bt263.1.toList != a3.toList)) else (cambiumlaw13_DataBack.j0 k l0 a1 a2 a3 a4 a5 bt259.1 true)) else (cambiumlaw13_DataBack.j0 k l0 a1 a2 a3 a4 a5 bt259.1 true)))) else (some ((t255.length : Int) == 0))) = some r := H
    have A9 := Aside0.mk A90
    clear A90
    by_cases c10 : t256 = 0
    · rw [if_pos c10] at H
      have c10b0 : (t256 == 0) = true := beq_iff_eq.mpr c10
      have c10b1 : (t256 != 0) = false := bne_eq_false_iff_eq.mpr c10
      clear c10
      replace H := Option.bind_eq_some_iff.mp H
      obtain ⟨⟨t259, t260⟩, A110, H⟩ := H
      replace H : ((data_Read.f k t259 a1 65536 a2 (((a3.size : Int)) % 4294967296)).bind fun bt263 => (if t260 = 0 then (if bt263.2 = 0 then (cambiumlaw13_DataBack.j0 k l0 a1 a2 a3 a4 a5 t259 (bt263.1.toList != a3.toList)) else (cambiumlaw13_DataBack.j0 k l0 a1 a2 a3 a4 a5 t259 true)) else (cambiumlaw13_DataBack.j0 k l0 a1 a2 a3 a4 a5 t259 true))) = some r := H
      have A11 := Aside0.mk A110
      clear A110
      replace H := Option.bind_eq_some_iff.mp H
      obtain ⟨⟨t263, t264⟩, A120, H⟩ := H
      replace H : (if t260 = 0 then (if t264 = 0 then (cambiumlaw13_DataBack.j0 k l0 a1 a2 a3 a4 a5 t259 (t263.toList != a3.toList)) else (cambiumlaw13_DataBack.j0 k l0 a1 a2 a3 a4 a5 t259 true)) else (cambiumlaw13_DataBack.j0 k l0 a1 a2 a3 a4 a5 t259 true)) = some r := H
      have A12 := Aside0.mk A120
      clear A120
      have HC13 := Aside0.mk H
      clear H
      go_enter Tryz.func3, Tryz.ntmps3
      go_upto_region 8 with (first | ((with_reducible refine gate_callee (f := 8) rfl ?_); refine gl_ (some 27) Tryz.func8 #[] ?_; (with_reducible refine (cambiumlaw13_lives.calls k  true _ A7.out).mono ?_); rintro e w14 ⟨rfl, hb⟩; refine ⟨_, rfl, ?_⟩; have n0_ := Aside0.mk (below_step bel_ hb); clear HB; have HB := n0_; clear n0_; (try clear hb); (try clear hb2); (try clear hk); (try clear hi)) | ((with_reducible refine gate_callee (f := 9) rfl ?_); refine gl_ (some 34) Tryz.func9 #[.slice A0 l0.length c0, .int .u32 a1, .int .u32 a2, .string a3] ?_; (with_reducible refine (data_Write.calls k _ _ l0 a1 a2 a3 t255 t256 _ ?side1 ?side2 A9.out).mono ?_); (case side1 => exact cb_ HR0); (case side2 => exact HC0.out); rintro e w15 ⟨v257, rfl, ho0, hb⟩; refine ⟨_, rfl, ?_⟩; have n0_ := Aside0.mk (Kd.R_lower ho0 (below_size bel_)); have n1_ := Aside0.mk (below_step bel_ hb); clear HB; have HO258 := n0_; have HB := n1_; clear n0_ n1_; (try clear hb); (try clear hb2); (try clear hk); (try clear hi); (try clear ho0); obtain ⟨Ao16, co16, eo16⟩ := Kd.R_slice HO258.out; subst eo16) | ((with_reducible refine gate_callee (f := 10) rfl ?_); refine gl_ (some 45) Tryz.func10 #[.slice A0 l0.length c0, .slice Ao16 t255.length co16] ?_; (with_reducible refine (item_Apply.calls k _ _ l0 _ _ t255 t259 t260 _ ?side1 ?side2 ?side3 ?side4 A11.out).mono ?_); (case side1 => exact cb_ HR0); (case side2 => exact HC0.out); (case side3 => exact cr_ HO258); (case side4 => exact (Kd.R_reads' HO258.out).2.1); rintro e w17 ⟨v261, rfl, ho0, hb⟩; refine ⟨_, rfl, ?_⟩; have n0_ := Aside0.mk (Kd.R_below (ra_ HO258) hb); have n1_ := Aside0.mk (Kd.R_lower ho0 (below_size bel_)); have n2_ := Aside0.mk (below_step bel_ hb); clear HO258; clear HB; have HO258 := n0_; have HO262 := n1_; have HB := n2_; clear n0_ n1_ n2_; (try clear hb); (try clear hb2); (try clear hk); (try clear hi); (try clear ho0); obtain ⟨Ao18, co18, eo18⟩ := Kd.R_slice HO262.out; subst eo18) | ((with_reducible refine gate_callee (f := 11) rfl ?_); refine gl_ (some 55) Tryz.func11 #[.slice Ao18 t259.length co18, .int .u32 a1, .int .u32 65536, .int .u32 a2, .int .u32 (((a3.size : Int)) % 4294967296)] ?_; (with_reducible refine (data_Read.calls k _ _ t259 a1 65536 a2 (((a3.size : Int)) % 4294967296) t263 t264 _ ?side1 ?side2 A12.out).mono ?_); (case side1 => exact cr_ HO262); (case side2 => exact (Kd.R_reads' HO262.out).2.1); rintro e w19 ⟨rfl, hb⟩; refine ⟨_, rfl, ?_⟩; have n0_ := Aside0.mk (Kd.R_below (ra_ HO258) hb); have n1_ := Aside0.mk (Kd.R_below (ra_ HO262) hb); have n2_ := Aside0.mk (below_step bel_ hb); clear HO258; clear HO262; clear HB; have HO258 := n0_; have HO262 := n1_; have HB := n2_; clear n0_ n1_ n2_; (try clear hb); (try clear hb2); (try clear hk); (try clear hi)))
      (try simp only [Act.put, List.setIfInBounds_toArray, List.set_cons_zero, List.set_cons_succ])
      go_cut [68] (fun v68 wc => ∃ (kq : Nat) (x68_12 : Bool), v68 = .bool x68_12 ∧ Aside0 (cambiumlaw13_DataBack.j0 kq l0 a1 a2 a3 a4 a5 t259 x68_12 = some r) ∧ Aside0 (kq ≤ k) ∧ Aside0 (Kd.R k54 54 wc w.heap.size (fun _ => True) (.slice Ao18 t259.length co18) t259) ∧ Aside0 (Below w.heap.size w wc))
      case first =>
        have H := HC13.out
        clear HC13
        by_cases c20 : t260 = 0
        · rw [if_pos c20] at H
          have c20b0 : (t260 == 0) = true := beq_iff_eq.mpr c20
          have c20b1 : (t260 != 0) = false := bne_eq_false_iff_eq.mpr c20
          clear c20
          (first | rw [c20b0] | (simp only [i64_w, i32_w]; rw [c20b0]) | skip)
          by_cases c21 : t264 = 0
          · rw [if_pos c21] at H
            have c21b0 : (t264 == 0) = true := beq_iff_eq.mpr c21
            have c21b1 : (t264 != 0) = false := bne_eq_false_iff_eq.mpr c21
            clear c21
            have H' := Aside0.mk H
            clear H
            go_wp2
            go_meet
            case rel => exact ⟨_, ((t263.toList != a3.toList)), (by first | rfl | (simp; done) | (simp [*]; done)), H', ⟨by first | omega | exact Nat.le_refl _⟩, ⟨ra_ HO262⟩, ⟨bel_⟩⟩
          rw [if_neg c21] at H
          have c21b0 : (t264 == 0) = false := beq_eq_false_iff_ne.mpr c21
          have c21b1 : (t264 != 0) = true := bne_iff_ne.mpr c21
          have H' := Aside0.mk H
          clear H
          go_wp2
          go_meet
          case rel => exact ⟨_, (true), (by first | rfl | (simp; done) | (simp [*]; done)), H', ⟨by first | omega | exact Nat.le_refl _⟩, ⟨ra_ HO262⟩, ⟨bel_⟩⟩
        rw [if_neg c20] at H
        have c20b0 : (t260 == 0) = false := beq_eq_false_iff_ne.mpr c20
        have c20b1 : (t260 != 0) = true := bne_iff_ne.mpr c20
        (first | rw [c20b0] | (simp only [i64_w, i32_w]; rw [c20b0]) | skip)
        have H' := Aside0.mk H
        clear H
        go_wp2
        go_meet
        case rel => exact ⟨_, (true), (by first | rfl | (simp; done) | (simp [*]; done)), H', ⟨by first | omega | exact Nat.le_refl _⟩, ⟨ra_ HO262⟩, ⟨bel_⟩⟩
      case rest =>
        clear HC13
        try clear c1
        try clear c2
        try clear p2
        try clear c3
        try clear c8
        try clear c9
        try clear c10
        try clear c10b0
        try clear c10b1
        try clear c11
        try clear c20
        try clear c20b0
        try clear c20b1
        try clear c21
        try clear c21b0
        try clear c21b1
        obtain ⟨kq, x68_12, rfl, HA, HJ12, HO_15, HB⟩ := hcut
        cases kq with
        | zero => exact absurd HA.out (by simp [cambiumlaw13_DataBack.j0])
        | succ kj12 =>
          have H := HA.out
          clear HA
          simp only [cambiumlaw13_DataBack.j0] at H
          by_cases c22 : x68_12 = true
          · subst c22
            have H1 : (some false) = some r := by rw [if_pos rfl] at H; exact H
            clear H
            have H := H1
            clear H1
            exact absurd ((Option.some.inj H).trans HT_.out) (by simp)
          replace c22 := Bool.eq_false_iff.mpr c22
          subst c22
          have H1 : ((data_Read.f kj12 l0 a4 65536 (Int.tmod a5 65536) 1).bind fun bt265 => ((data_Read.f kj12 t259 a4 65536 (Int.tmod a5 65536) 1).bind fun bt267 => (if a4 = a1 then (if (Int.tmod a5 65536) ≥ a2 then ((data_Write.f kj12 t259 a1 a2 a3).bind fun bt269 => (if bt265.2 = bt267.2 then (if (((Int.tmod a5 65536) - a2) % 4294967296) < (((a3.size : Int)) % 4294967296) then (if bt269.2 = 0 then (some ((bt269.1.length : Int) == 0)) else (some false)) else (if bt265.1.toList = bt267.1.toList then (if bt269.2 = 0 then (some ((bt269.1.length : Int) == 0)) else (some false)) else (some false))) else (some false))) else ((data_Write.f kj12 t259 a1 a2 a3).bind fun bt273 => (if bt265.2 = bt267.2 then (if bt265.1.toList = bt267.1.toList then (if bt273.2 = 0 then (some ((bt273.1.length : Int) == 0)) else (some false)) else (some false)) else (some false)))) else ((data_Write.f kj12 t259 a1 a2 a3).bind fun bt277 => (if bt265.2 = bt267.2 then (if bt265.1.toList = bt267.1.toList then (if bt277.2 = 0 then (some ((bt277.1.length : Int) == 0)) else (some false)) else (some false)) else (some false)))))) = some r := by rw [if_neg (show ¬ (false = true) by decide)] at H; exact H
          clear H
          have H := H1
          clear H1
          replace H := Option.bind_eq_some_iff.mp H
          obtain ⟨⟨t265, t266⟩, A230, H⟩ := H
          replace H : ((data_Read.f kj12 t259 a4 65536 (Int.tmod a5 65536) 1).bind fun bt267 => (if a4 = a1 then (if (Int.tmod a5 65536) ≥ a2 then ((data_Write.f kj12 t259 a1 a2 a3).bind fun bt269 => (if t266 = bt267.2 then (if (((Int.tmod a5 65536) - a2) % 4294967296) < (((a3.size : Int)) % 4294967296) then (if bt269.2 = 0 then (some ((bt269.1.length : Int) == 0)) else (some false)) else (if t265.toList = bt267.1.toList then (if bt269.2 = 0 then (some ((bt269.1.length : Int) == 0)) else (some false)) else (some false))) else (some false))) else ((data_Write.f kj12 t259 a1 a2 a3).bind fun bt273 => (if t266 = bt267.2 then (if t265.toList = bt267.1.toList then (if bt273.2 = 0 then (some ((bt273.1.length : Int) == 0)) else (some false)) else (some false)) else (some false)))) else ((data_Write.f kj12 t259 a1 a2 a3).bind fun bt277 => (if t266 = bt267.2 then (if t265.toList = bt267.1.toList then (if bt277.2 = 0 then (some ((bt277.1.length : Int) == 0)) else (some false)) else (some false)) else (some false))))) = some r := H
          have A23 := Aside0.mk A230
          clear A230
          replace H := Option.bind_eq_some_iff.mp H
          obtain ⟨⟨t267, t268⟩, A240, H⟩ := H
          replace H : (if a4 = a1 then (if (Int.tmod a5 65536) ≥ a2 then ((data_Write.f kj12 t259 a1 a2 a3).bind fun bt269 => (if t266 = t268 then (if (((Int.tmod a5 65536) - a2) % 4294967296) < (((a3.size : Int)) % 4294967296) then (if bt269.2 = 0 then (some ((bt269.1.length : Int) == 0)) else (some false)) else (if t265.toList = t267.toList then (if bt269.2 = 0 then (some ((bt269.1.length : Int) == 0)) else (some false)) else (some false))) else (some false))) else ((data_Write.f kj12 t259 a1 a2 a3).bind fun bt273 => (if t266 = t268 then (if t265.toList = t267.toList then (if bt273.2 = 0 then (some ((bt273.1.length : Int) == 0)) else (some false)) else (some false)) else (some false)))) else ((data_Write.f kj12 t259 a1 a2 a3).bind fun bt277 => (if t266 = t268 then (if t265.toList = t267.toList then (if bt277.2 = 0 then (some ((bt277.1.length : Int) == 0)) else (some false)) else (some false)) else (some false)))) = some r := H
          have A24 := Aside0.mk A240
          clear A240
          by_cases c25 : a4 = a1
          · rw [if_pos c25] at H
            have c25b0 : (a4 == a1) = true := beq_iff_eq.mpr c25
            have c25b1 : (a4 != a1) = false := bne_eq_false_iff_eq.mpr c25
            clear c25
            by_cases c26 : (Int.tmod a5 65536) ≥ a2
            · rw [if_pos c26] at H
              have c26b0 : decide (a2 ≤ (Int.tmod a5 65536)) = true := decide_eq_true c26
              clear c26
              replace H := Option.bind_eq_some_iff.mp H
              obtain ⟨⟨t269, t270⟩, A270, H⟩ := H
              replace H : (if t266 = t268 then (if (((Int.tmod a5 65536) - a2) % 4294967296) < (((a3.size : Int)) % 4294967296) then (if t270 = 0 then (some ((t269.length : Int) == 0)) else (some false)) else (if t265.toList = t267.toList then (if t270 = 0 then (some ((t269.length : Int) == 0)) else (some false)) else (some false))) else (some false)) = some r := H
              have A27 := Aside0.mk A270
              clear A270
              by_cases c28 : t266 = t268
              · rw [if_pos c28] at H
                have c28b0 : (t266 == t268) = true := beq_iff_eq.mpr c28
                have c28b1 : (t266 != t268) = false := bne_eq_false_iff_eq.mpr c28
                clear c28
                by_cases c29 : (((Int.tmod a5 65536) - a2) % 4294967296) < (((a3.size : Int)) % 4294967296)
                · rw [if_pos c29] at H
                  have c29b0 : decide ((((Int.tmod a5 65536) - a2) % 4294967296) < (((a3.size : Int)) % 4294967296)) = true := decide_eq_true c29
                  clear c29
                  by_cases c30 : t270 = 0
                  · rw [if_pos c30] at H
                    have c30b0 : (t270 == 0) = true := beq_iff_eq.mpr c30
                    have c30b1 : (t270 != 0) = false := bne_eq_false_iff_eq.mpr c30
                    clear c30
                    obtain rfl := Option.some.inj H
                    go_wp2_with (first | ((with_reducible refine gate_callee (f := 11) rfl ?_); refine gl_ (some 74) Tryz.func11 #[.slice A0 l0.length c0, .int .u32 a4, .int .u32 65536, .int .u32 (Int.tmod a5 65536), .int .u32 1] ?_; (with_reducible refine (data_Read.calls kj12 _ _ l0 a4 65536 (Int.tmod a5 65536) 1 t265 t266 _ ?side1 ?side2 A23.out).mono ?_); (case side1 => exact cb_ HR0); (case side2 => exact HC0.out); rintro e w31 ⟨rfl, hb⟩; refine ⟨_, rfl, ?_⟩; replace HO_15 := rb_ HO_15 hb; replace HB := hb_ hb; (try clear hb); (try clear hb2); (try clear hk); (try clear hi)) | ((with_reducible refine gate_callee (f := 11) rfl ?_); refine gl_ (some 82) Tryz.func11 #[.slice Ao18 t259.length co18, .int .u32 a4, .int .u32 65536, .int .u32 (Int.tmod a5 65536), .int .u32 1] ?_; (with_reducible refine (data_Read.calls kj12 _ _ t259 a4 65536 (Int.tmod a5 65536) 1 t267 t268 _ ?side1 ?side2 A24.out).mono ?_); (case side1 => exact cr_ HO_15); (case side2 => exact (Kd.R_reads' HO_15.out).2.1); rintro e w32 ⟨rfl, hb⟩; refine ⟨_, rfl, ?_⟩; replace HO_15 := rb_ HO_15 hb; replace HB := hb_ hb; (try clear hb); (try clear hb2); (try clear hk); (try clear hi)) | ((with_reducible refine gate_callee (f := 9) rfl ?_); refine gl_ (some 109) Tryz.func9 #[.slice Ao18 t259.length co18, .int .u32 a1, .int .u32 a2, .string a3] ?_; (with_reducible refine (data_Write.calls kj12 _ _ t259 a1 a2 a3 t269 t270 _ ?side1 ?side2 A27.out).mono ?_); (case side1 => exact cr_ HO_15); (case side2 => exact (Kd.R_reads' HO_15.out).2.1); rintro e w33 ⟨v271, rfl, ho0, hb⟩; refine ⟨_, rfl, ?_⟩; have HO272 := rl_ ho0; replace HO_15 := rb_ HO_15 hb; replace HB := hb_ hb; (try clear hb); (try clear hb2); (try clear hk); (try clear hi); (try clear ho0); obtain ⟨Ao34, co34, eo34⟩ := Kd.R_slice HO272.out; subst eo34))
                    go_ret
                    exact ⟨by first | rfl | (simp [errW_none, errW_some] <;> rfl) | (simp [*, errW_none, errW_some] <;> rfl), bel_⟩
                  rw [if_neg c30] at H
                  have c30b0 : (t270 == 0) = false := beq_eq_false_iff_ne.mpr c30
                  have c30b1 : (t270 != 0) = true := bne_iff_ne.mpr c30
                  exact absurd ((Option.some.inj H).trans HT_.out) (by simp)
                rw [if_neg c29] at H
                have c29b0 : decide ((((Int.tmod a5 65536) - a2) % 4294967296) < (((a3.size : Int)) % 4294967296)) = false := decide_eq_false c29
                clear c29
                by_cases c35 : t265.toList = t267.toList
                · rw [if_pos c35] at H
                  have c35b0 : (t265.toList == t267.toList) = true := beq_iff_eq.mpr c35
                  have c35b1 : (t265.toList != t267.toList) = false := bne_eq_false_iff_eq.mpr c35
                  clear c35
                  by_cases c36 : t270 = 0
                  · rw [if_pos c36] at H
                    have c36b0 : (t270 == 0) = true := beq_iff_eq.mpr c36
                    have c36b1 : (t270 != 0) = false := bne_eq_false_iff_eq.mpr c36
                    clear c36
                    obtain rfl := Option.some.inj H
                    go_wp2_with (first | ((with_reducible refine gate_callee (f := 11) rfl ?_); refine gl_ (some 74) Tryz.func11 #[.slice A0 l0.length c0, .int .u32 a4, .int .u32 65536, .int .u32 (Int.tmod a5 65536), .int .u32 1] ?_; (with_reducible refine (data_Read.calls kj12 _ _ l0 a4 65536 (Int.tmod a5 65536) 1 t265 t266 _ ?side1 ?side2 A23.out).mono ?_); (case side1 => exact cb_ HR0); (case side2 => exact HC0.out); rintro e w37 ⟨rfl, hb⟩; refine ⟨_, rfl, ?_⟩; replace HO_15 := rb_ HO_15 hb; replace HB := hb_ hb; (try clear hb); (try clear hb2); (try clear hk); (try clear hi)) | ((with_reducible refine gate_callee (f := 11) rfl ?_); refine gl_ (some 82) Tryz.func11 #[.slice Ao18 t259.length co18, .int .u32 a4, .int .u32 65536, .int .u32 (Int.tmod a5 65536), .int .u32 1] ?_; (with_reducible refine (data_Read.calls kj12 _ _ t259 a4 65536 (Int.tmod a5 65536) 1 t267 t268 _ ?side1 ?side2 A24.out).mono ?_); (case side1 => exact cr_ HO_15); (case side2 => exact (Kd.R_reads' HO_15.out).2.1); rintro e w38 ⟨rfl, hb⟩; refine ⟨_, rfl, ?_⟩; replace HO_15 := rb_ HO_15 hb; replace HB := hb_ hb; (try clear hb); (try clear hb2); (try clear hk); (try clear hi)) | ((with_reducible refine gate_callee (f := 9) rfl ?_); refine gl_ (some 109) Tryz.func9 #[.slice Ao18 t259.length co18, .int .u32 a1, .int .u32 a2, .string a3] ?_; (with_reducible refine (data_Write.calls kj12 _ _ t259 a1 a2 a3 t269 t270 _ ?side1 ?side2 A27.out).mono ?_); (case side1 => exact cr_ HO_15); (case side2 => exact (Kd.R_reads' HO_15.out).2.1); rintro e w39 ⟨v271, rfl, ho0, hb⟩; refine ⟨_, rfl, ?_⟩; have HO272 := rl_ ho0; replace HO_15 := rb_ HO_15 hb; replace HB := hb_ hb; (try clear hb); (try clear hb2); (try clear hk); (try clear hi); (try clear ho0); obtain ⟨Ao40, co40, eo40⟩ := Kd.R_slice HO272.out; subst eo40))
                    go_ret
                    exact ⟨by first | rfl | (simp [errW_none, errW_some] <;> rfl) | (simp [*, errW_none, errW_some] <;> rfl), bel_⟩
                  rw [if_neg c36] at H
                  have c36b0 : (t270 == 0) = false := beq_eq_false_iff_ne.mpr c36
                  have c36b1 : (t270 != 0) = true := bne_iff_ne.mpr c36
                  exact absurd ((Option.some.inj H).trans HT_.out) (by simp)
                rw [if_neg c35] at H
                have c35b0 : (t265.toList == t267.toList) = false := beq_eq_false_iff_ne.mpr c35
                have c35b1 : (t265.toList != t267.toList) = true := bne_iff_ne.mpr c35
                exact absurd ((Option.some.inj H).trans HT_.out) (by simp)
              rw [if_neg c28] at H
              have c28b0 : (t266 == t268) = false := beq_eq_false_iff_ne.mpr c28
              have c28b1 : (t266 != t268) = true := bne_iff_ne.mpr c28
              exact absurd ((Option.some.inj H).trans HT_.out) (by simp)
            rw [if_neg c26] at H
            have c26b0 : decide (a2 ≤ (Int.tmod a5 65536)) = false := decide_eq_false c26
            clear c26
            replace H := Option.bind_eq_some_iff.mp H
            obtain ⟨⟨t273, t274⟩, A410, H⟩ := H
            replace H : (if t266 = t268 then (if t265.toList = t267.toList then (if t274 = 0 then (some ((t273.length : Int) == 0)) else (some false)) else (some false)) else (some false)) = some r := H
            have A41 := Aside0.mk A410
            clear A410
            by_cases c42 : t266 = t268
            · rw [if_pos c42] at H
              have c42b0 : (t266 == t268) = true := beq_iff_eq.mpr c42
              have c42b1 : (t266 != t268) = false := bne_eq_false_iff_eq.mpr c42
              clear c42
              by_cases c43 : t265.toList = t267.toList
              · rw [if_pos c43] at H
                have c43b0 : (t265.toList == t267.toList) = true := beq_iff_eq.mpr c43
                have c43b1 : (t265.toList != t267.toList) = false := bne_eq_false_iff_eq.mpr c43
                clear c43
                by_cases c44 : t274 = 0
                · rw [if_pos c44] at H
                  have c44b0 : (t274 == 0) = true := beq_iff_eq.mpr c44
                  have c44b1 : (t274 != 0) = false := bne_eq_false_iff_eq.mpr c44
                  clear c44
                  obtain rfl := Option.some.inj H
                  go_wp2_with (first | ((with_reducible refine gate_callee (f := 11) rfl ?_); refine gl_ (some 74) Tryz.func11 #[.slice A0 l0.length c0, .int .u32 a4, .int .u32 65536, .int .u32 (Int.tmod a5 65536), .int .u32 1] ?_; (with_reducible refine (data_Read.calls kj12 _ _ l0 a4 65536 (Int.tmod a5 65536) 1 t265 t266 _ ?side1 ?side2 A23.out).mono ?_); (case side1 => exact cb_ HR0); (case side2 => exact HC0.out); rintro e w45 ⟨rfl, hb⟩; refine ⟨_, rfl, ?_⟩; replace HO_15 := rb_ HO_15 hb; replace HB := hb_ hb; (try clear hb); (try clear hb2); (try clear hk); (try clear hi)) | ((with_reducible refine gate_callee (f := 11) rfl ?_); refine gl_ (some 82) Tryz.func11 #[.slice Ao18 t259.length co18, .int .u32 a4, .int .u32 65536, .int .u32 (Int.tmod a5 65536), .int .u32 1] ?_; (with_reducible refine (data_Read.calls kj12 _ _ t259 a4 65536 (Int.tmod a5 65536) 1 t267 t268 _ ?side1 ?side2 A24.out).mono ?_); (case side1 => exact cr_ HO_15); (case side2 => exact (Kd.R_reads' HO_15.out).2.1); rintro e w46 ⟨rfl, hb⟩; refine ⟨_, rfl, ?_⟩; replace HO_15 := rb_ HO_15 hb; replace HB := hb_ hb; (try clear hb); (try clear hb2); (try clear hk); (try clear hi)) | ((with_reducible refine gate_callee (f := 9) rfl ?_); refine gl_ (some 109) Tryz.func9 #[.slice Ao18 t259.length co18, .int .u32 a1, .int .u32 a2, .string a3] ?_; (with_reducible refine (data_Write.calls kj12 _ _ t259 a1 a2 a3 t273 t274 _ ?side1 ?side2 A41.out).mono ?_); (case side1 => exact cr_ HO_15); (case side2 => exact (Kd.R_reads' HO_15.out).2.1); rintro e w47 ⟨v275, rfl, ho0, hb⟩; refine ⟨_, rfl, ?_⟩; have HO276 := rl_ ho0; replace HO_15 := rb_ HO_15 hb; replace HB := hb_ hb; (try clear hb); (try clear hb2); (try clear hk); (try clear hi); (try clear ho0); obtain ⟨Ao48, co48, eo48⟩ := Kd.R_slice HO276.out; subst eo48))
                  go_ret
                  exact ⟨by first | rfl | (simp [errW_none, errW_some] <;> rfl) | (simp [*, errW_none, errW_some] <;> rfl), bel_⟩
                rw [if_neg c44] at H
                have c44b0 : (t274 == 0) = false := beq_eq_false_iff_ne.mpr c44
                have c44b1 : (t274 != 0) = true := bne_iff_ne.mpr c44
                exact absurd ((Option.some.inj H).trans HT_.out) (by simp)
              rw [if_neg c43] at H
              have c43b0 : (t265.toList == t267.toList) = false := beq_eq_false_iff_ne.mpr c43
              have c43b1 : (t265.toList != t267.toList) = true := bne_iff_ne.mpr c43
              exact absurd ((Option.some.inj H).trans HT_.out) (by simp)
            rw [if_neg c42] at H
            have c42b0 : (t266 == t268) = false := beq_eq_false_iff_ne.mpr c42
            have c42b1 : (t266 != t268) = true := bne_iff_ne.mpr c42
            exact absurd ((Option.some.inj H).trans HT_.out) (by simp)
          rw [if_neg c25] at H
          have c25b0 : (a4 == a1) = false := beq_eq_false_iff_ne.mpr c25
          have c25b1 : (a4 != a1) = true := bne_iff_ne.mpr c25
          replace H := Option.bind_eq_some_iff.mp H
          obtain ⟨⟨t277, t278⟩, A490, H⟩ := H
          replace H : (if t266 = t268 then (if t265.toList = t267.toList then (if t278 = 0 then (some ((t277.length : Int) == 0)) else (some false)) else (some false)) else (some false)) = some r := H
          have A49 := Aside0.mk A490
          clear A490
          by_cases c50 : t266 = t268
          · rw [if_pos c50] at H
            have c50b0 : (t266 == t268) = true := beq_iff_eq.mpr c50
            have c50b1 : (t266 != t268) = false := bne_eq_false_iff_eq.mpr c50
            clear c50
            by_cases c51 : t265.toList = t267.toList
            · rw [if_pos c51] at H
              have c51b0 : (t265.toList == t267.toList) = true := beq_iff_eq.mpr c51
              have c51b1 : (t265.toList != t267.toList) = false := bne_eq_false_iff_eq.mpr c51
              clear c51
              by_cases c52 : t278 = 0
              · rw [if_pos c52] at H
                have c52b0 : (t278 == 0) = true := beq_iff_eq.mpr c52
                have c52b1 : (t278 != 0) = false := bne_eq_false_iff_eq.mpr c52
                clear c52
                obtain rfl := Option.some.inj H
                go_wp2_with (first | ((with_reducible refine gate_callee (f := 11) rfl ?_); refine gl_ (some 74) Tryz.func11 #[.slice A0 l0.length c0, .int .u32 a4, .int .u32 65536, .int .u32 (Int.tmod a5 65536), .int .u32 1] ?_; (with_reducible refine (data_Read.calls kj12 _ _ l0 a4 65536 (Int.tmod a5 65536) 1 t265 t266 _ ?side1 ?side2 A23.out).mono ?_); (case side1 => exact cb_ HR0); (case side2 => exact HC0.out); rintro e w53 ⟨rfl, hb⟩; refine ⟨_, rfl, ?_⟩; replace HO_15 := rb_ HO_15 hb; replace HB := hb_ hb; (try clear hb); (try clear hb2); (try clear hk); (try clear hi)) | ((with_reducible refine gate_callee (f := 11) rfl ?_); refine gl_ (some 82) Tryz.func11 #[.slice Ao18 t259.length co18, .int .u32 a4, .int .u32 65536, .int .u32 (Int.tmod a5 65536), .int .u32 1] ?_; (with_reducible refine (data_Read.calls kj12 _ _ t259 a4 65536 (Int.tmod a5 65536) 1 t267 t268 _ ?side1 ?side2 A24.out).mono ?_); (case side1 => exact cr_ HO_15); (case side2 => exact (Kd.R_reads' HO_15.out).2.1); rintro e w54 ⟨rfl, hb⟩; refine ⟨_, rfl, ?_⟩; replace HO_15 := rb_ HO_15 hb; replace HB := hb_ hb; (try clear hb); (try clear hb2); (try clear hk); (try clear hi)) | ((with_reducible refine gate_callee (f := 9) rfl ?_); refine gl_ (some 109) Tryz.func9 #[.slice Ao18 t259.length co18, .int .u32 a1, .int .u32 a2, .string a3] ?_; (with_reducible refine (data_Write.calls kj12 _ _ t259 a1 a2 a3 t277 t278 _ ?side1 ?side2 A49.out).mono ?_); (case side1 => exact cr_ HO_15); (case side2 => exact (Kd.R_reads' HO_15.out).2.1); rintro e w55 ⟨v279, rfl, ho0, hb⟩; refine ⟨_, rfl, ?_⟩; have HO280 := rl_ ho0; replace HO_15 := rb_ HO_15 hb; replace HB := hb_ hb; (try clear hb); (try clear hb2); (try clear hk); (try clear hi); (try clear ho0); obtain ⟨Ao56, co56, eo56⟩ := Kd.R_slice HO280.out; subst eo56))
                go_ret
                exact ⟨by first | rfl | (simp [errW_none, errW_some] <;> rfl) | (simp [*, errW_none, errW_some] <;> rfl), bel_⟩
              rw [if_neg c52] at H
              have c52b0 : (t278 == 0) = false := beq_eq_false_iff_ne.mpr c52
              have c52b1 : (t278 != 0) = true := bne_iff_ne.mpr c52
              exact absurd ((Option.some.inj H).trans HT_.out) (by simp)
            rw [if_neg c51] at H
            have c51b0 : (t265.toList == t267.toList) = false := beq_eq_false_iff_ne.mpr c51
            have c51b1 : (t265.toList != t267.toList) = true := bne_iff_ne.mpr c51
            exact absurd ((Option.some.inj H).trans HT_.out) (by simp)
          rw [if_neg c50] at H
          have c50b0 : (t266 == t268) = false := beq_eq_false_iff_ne.mpr c50
          have c50b1 : (t266 != t268) = true := bne_iff_ne.mpr c50
          exact absurd ((Option.some.inj H).trans HT_.out) (by simp)
    rw [if_neg c10] at H
    have c10b0 : (t256 == 0) = false := beq_eq_false_iff_ne.mpr c10
    have c10b1 : (t256 != 0) = true := bne_iff_ne.mpr c10
    obtain rfl := Option.some.inj H
    go_enter Tryz.func3, Tryz.ntmps3
    go_wp2_with (first | ((with_reducible refine gate_callee (f := 8) rfl ?_); refine gl_ (some 27) Tryz.func8 #[] ?_; (with_reducible refine (cambiumlaw13_lives.calls k  true _ A7.out).mono ?_); rintro e w57 ⟨rfl, hb⟩; refine ⟨_, rfl, ?_⟩; replace HB := hb_ hb; (try clear hb); (try clear hb2); (try clear hk); (try clear hi)) | ((with_reducible refine gate_callee (f := 9) rfl ?_); refine gl_ (some 34) Tryz.func9 #[.slice A0 l0.length c0, .int .u32 a1, .int .u32 a2, .string a3] ?_; (with_reducible refine (data_Write.calls k _ _ l0 a1 a2 a3 t255 t256 _ ?side1 ?side2 A9.out).mono ?_); (case side1 => exact cb_ HR0); (case side2 => exact HC0.out); rintro e w58 ⟨v257, rfl, ho0, hb⟩; refine ⟨_, rfl, ?_⟩; have HO258 := rl_ ho0; replace HB := hb_ hb; (try clear hb); (try clear hb2); (try clear hk); (try clear hi); (try clear ho0); obtain ⟨Ao59, co59, eo59⟩ := Kd.R_slice HO258.out; subst eo59))
    go_ret
    exact ⟨by first | rfl | (simp [errW_none, errW_some] <;> rfl) | (simp [*, errW_none, errW_some] <;> rfl), bel_⟩
  replace c8 := Bool.eq_false_iff.mpr c8
  subst c8
  have H1 : (some false) = some r := by rw [if_neg (show ¬ (false = true) by decide)] at H; exact H
  clear H
  have H := H1
  clear H1
  exact absurd ((Option.some.inj H).trans HT_.out) (by simp)

end Go.Proofs.YtnngbhdofgodiaaGreatDoor.Z
end

section
/- DataBack, over lists: the law's function answers true. -/
namespace Go.Proofs.YtnngbhdofgodiaaGreatDoor.Pure
open Go.RowKit Go.Proofs.YtnngbhdofgodiaaGreatDoor Go.Proofs.YtnngbhdofgodiaaGreatDoor.Z Go.Proofs.YtnngbhdofgodiaaGreatDoorW.PrintWords Go.Proofs.YtnngbhdofgodiaaGreatDoor.PM
set_option linter.unusedVariables false
set_option linter.unusedSimpArgs false
theorem sumI_DataBack (l : List It) : l.length ≤ (l.map Z.B54).sum := by
  induction l with
  | nil => simp
  | cons x l ih => simp only [List.map_cons, List.sum_cons, List.length_cons]; unfold Z.B54 at *; omega
theorem DataBack : ∀ (l0 : List (S54)) (a1 : Int) (a2 : Int) (a3 : ByteArray) (a4 : Int) (a5 : Int), l0.length ≤ maxLen → (∀ x ∈ l0, Z.G54 x) → (Lit.int .u32 a1).wf = true → (Lit.int .u32 a2).wf = true → a3.size ≤ maxLen → (Lit.int .u32 a4).wf = true → (Lit.int .u32 a5).wf = true → ((l0.map Z.B54).sum + 1) + 1 + 1 + (a3.size + 1) + 1 + 1 ≤ 1048576 → ∃ k, Z.cambiumlaw13_DataBack.f k l0 a1 a2 a3 a4 a5 = some true := by
  intro l ino off s i2 at_ _ _ w1 w2 _ w4 w5 hs
  have hl := sumI_DataBack l
  have hi := wf32 w1
  have ho := wf32 w2
  have hi2 := wf32 w4
  have hat := wf32 w5
  refine Ev.rounds ?_
  unfold cambiumlaw13_DataBack.f
  refine Ev.bind lives_f (Ev.ifp rfl ?_)
  by_cases hok : okL l = true ∧ ino ≠ 0 ∧ off + s.size ≤ 65536
  case neg =>
    obtain ⟨e, h1, h2⟩ := writeS_bad hok
    exact Ev.bind (Ev.val (data_Write_f l (by omega) s hi ho (by omega)) h1) (Ev.ifn h2 (Ev.const rfl))
  case pos =>
    obtain ⟨hk, h0, hb⟩ := hok
    have hz := sizeL s
    have hi' : 0 < ino ∧ ino < 4294967296 := ⟨by omega, hi.2⟩
    have hpb : off.toNat + s.data.toList.length ≤ 65536 := by omega
    have hoc := wrC_okC l hi' hpb
    have hB := fun (q : Nat) (hq : q < 65536) => wrC_byte hk hi' hpb hq
    have hO := fun (j : Int) (hj : 0 < j ∧ j < 4294967296) (hne : j ≠ ino) (q : Nat) (hq : q < 65536) => wrC_other hk hi' hj hne hpb hq
    have hag := wrC_again hk hi' hpb
    have hcl := wrC_len l ino hpb
    have hml := apl_len (wrC l ino off.toNat s.data.toList) l
    have hmk := apl_ok hk hoc
    refine Ev.bind (Ev.val (data_Write_f l (by omega) s hi ho (by omega)) (writeS_ok hk h0 ho.1 hb)) (Ev.ifp rfl ?_)
    refine Ev.bind (Ev.val (itApply l _ (by show l.length + (wrC l ino off.toNat s.data.toList).length ≤ _; omega)) (aplS_ok hk hoc)) ?_
    dsimp only
    generalize apl l (wrC l ino off.toNat s.data.toList) = m at hB hO hag hml hmk
    have hmL : m.length ≤ 4398046511104 := by omega
    have hrd : readS m ino 65536 off ((s.size : Int) % 4294967296) = (s, 0) := by
      rw [readS_ok hmk h0 (by decide), show (min (65536 : Int) (off + (s.size : Int) % 4294967296)).toNat - off.toNat = s.data.toList.length by omega]
      rw [List.map_congr_left (g := layF (byteD l ino) off.toNat s.data.toList) (fun q hq => hB q (by have := List.mem_range'_1.1 hq; omega)), mapR, data_ba]
    refine Ev.bind (Ev.val (data_Read_f m hmL hi (by decide) ho (by omega)) hrd) (Ev.ifp rfl (Ev.ifp rfl ?_))
    have hne : (s.toList != s.toList) = false := by simp
    dsimp only
    rw [hne]
    have hkk : Int.tmod at_ 65536 = at_ % 65536 := Int.tmod_eq_emod_of_nonneg hat.1
    obtain ⟨k, hkd⟩ : ∃ k, k = at_ % 65536 := ⟨_, rfl⟩
    have hk2 : 0 ≤ k ∧ k < 65536 := by omega
    have hwr : writeS m ino off s = ([], 0) := by rw [writeS_ok hmk h0 ho.1 hb, hag]
    have hw := Ev.val (data_Write_f m hmL s hi ho (by omega)) hwr
    refine Ev.step (fun n => by rw [cambiumlaw13_DataBack.j0]) (Ev.ifn (by decide) ?_)
    rw [hkk, ← hkd]
    refine Ev.bind (data_Read_f l (by omega) hi2 (by decide) ⟨hk2.1, by omega⟩ ⟨by decide, by decide⟩) (Ev.bind (data_Read_f m hmL hi2 (by decide) ⟨hk2.1, by omega⟩ ⟨by decide, by decide⟩) ?_)
    have hsame : (readS l i2 65536 k 1).2 = (readS m i2 65536 k 1).2 := by
      by_cases hz : i2 = 0
      · subst hz
        rw [readS_zero hk, readS_zero hmk]
      · rw [readS_one hk hz hk2, readS_one hmk hz hk2]
    have heq : ¬ (i2 = ino ∧ off ≤ k ∧ k < off + s.size) → (readS l i2 65536 k 1).1.toList = (readS m i2 65536 k 1).1.toList := by
      intro hn
      by_cases hz0 : i2 = 0
      · subst hz0
        rw [readS_zero hk, readS_zero hmk]
      · rw [readS_one hk hz0 hk2, readS_one hmk hz0 hk2]
        congr 2
        by_cases hii : i2 = ino
        · subst hii
          rw [hB k.toNat (by omega)]
          unfold layF
          rw [if_neg (by omega)]
        · rw [hO i2 ⟨by omega, hi2.2⟩ hii k.toNat (by omega)]
    refine Ev.ite (fun hii => Ev.ite (fun hge => Ev.bind hw (Ev.ifp hsame (Ev.ite (fun _ => Ev.ifp rfl (Ev.const rfl)) (fun hlt => Ev.ifp (heq ?_) (Ev.ifp rfl (Ev.const rfl)))))) (fun hlt => Ev.bind hw (Ev.ifp hsame (Ev.ifp (heq ?_) (Ev.ifp rfl (Ev.const rfl)))))) (fun hii => Ev.bind hw (Ev.ifp hsame (Ev.ifp (heq ?_) (Ev.ifp rfl (Ev.const rfl)))))
    · rintro ⟨_, h1, h2⟩
      omega
    · rintro ⟨_, h1, h2⟩
      omega
    · rintro ⟨h1, _⟩
      exact hii h1
end Go.Proofs.YtnngbhdofgodiaaGreatDoor.Pure
end

section
/- cambium/cambiumlaw13.DataBack: at every input the law's function returns true, and each argument reads afterwards as before. Conditions: none beyond the row's own, and that the arguments are of bulk at most 1048576. Printed by a program of this session (mp.py) over the pure statement in YtnngbhdofgodiaaGreatDoorPureDataBack. -/
namespace Go.Proofs.YtnngbhdofgodiaaGreatDoor.dataBack
open Go.ChangeShapes Go.WideShapes Go.ChangeAt Go.RowKit
open Go.ChangeMaps (open_string shut_string)
set_option linter.unusedVariables false
set_option linter.unusedSimpArgs false
theorem own : ownKnob Tryz.prog.godebug = none := by kernel_rfl
theorem laidOut : laidOutB Tryz.prog = true := by kernel_rfl
def lay0 : Obj → Obj
  | .cells _ t frozen => .cells (((Pinned.numbers IntKind.u8 Pinned.utf8FirstZ : List (DataW Unit)).map (fun x => match x with | .lit (.int k v) => Value.int k v | _ => .int .u8 0)).toArray) t frozen
  | o => o
def lay1 : Obj → Obj
  | .cells _ t frozen => .cells #[.int .u8 128, .int .u8 191, .int .u8 160, .int .u8 191, .int .u8 128, .int .u8 159, .int .u8 144, .int .u8 191, .int .u8 128, .int .u8 143, .int .u8 0, .int .u8 0, .int .u8 0, .int .u8 0, .int .u8 0, .int .u8 0, .int .u8 0, .int .u8 0, .int .u8 0, .int .u8 0, .int .u8 0, .int .u8 0, .int .u8 0, .int .u8 0, .int .u8 0, .int .u8 0, .int .u8 0, .int .u8 0, .int .u8 0, .int .u8 0, .int .u8 0, .int .u8 0] t frozen
  | o => o
noncomputable def laidWorld (os : Os) : World :=
  { World.holding Tryz.prog os ⟨#[], #[], []⟩ with heap := ((World.holding Tryz.prog os ⟨#[], #[], []⟩).heap.modify 0 lay0).modify 1 lay1 }
theorem laid_met (os : Os) : laidMet Tryz.prog Rows.dataBackUptoRow.laid ((laidWorld os).forCall (fun _ _ => 0) ⟨#[], #[.slice none 0 0, .int .u32 0, .int .u32 0, .string ByteArray.empty, .int .u32 0, .int .u32 0], []⟩).memory :=
  laidMet_of_run' 8 (by kernel_rfl) (by kernel_rfl)
theorem reads (os : Os) {H : Type} (enc : TypeId × Value → H) : ∃ places, DataW.whole enc Tryz.prog ((laidWorld os).forCall (fun _ _ => 0) ⟨#[], #[.slice none 0 0, .int .u32 0, .int .u32 0, .string ByteArray.empty, .int .u32 0, .int .u32 0], []⟩).memory Tryz.f3.params.toList Rows.dataBackSpec.vars false (#[.slice none 0 0, .int .u32 0, .int .u32 0, .string ByteArray.empty, .int .u32 0, .int .u32 0] : Array Value).toList 8 = some ([.nil, .lit (.int .u32 0), .lit (.int .u32 0), .lit (.string []), .lit (.int .u32 0), .lit (.int .u32 0)], [], places) :=
  ⟨[], by kernel_rfl⟩
set_option maxHeartbeats 1000000 in
set_option maxRecDepth 100000 in
theorem lifted (os : Os) (started : os.Started) (H : Type) (enc : TypeId × Value → H) (F : Stop.Interp) :
    ReturnsInHanded {} Tryz.checked os 3 .any ((Rows.OpenSpec.upto Rows.dataBackSpec).preRow enc Tryz.prog Tryz.f3 Rows.dataBackUptoRow.domain false Rows.dataBackUptoRow.laid) (((Rows.OpenSpec.upto Rows.dataBackSpec).at F).post enc Tryz.prog Tryz.f3 false true false false) := by
  obtain ⟨places, hx⟩ := reads os enc
  refine returnsInHanded_of_row (C := Tryz.checked) (s := Rows.OpenSpec.upto Rows.dataBackSpec) own started (by kernel_rfl) Tryz.func3
    (witness_row_at (enc := enc) (C := Tryz.checked) false (laidWorld os) #[.slice none 0 0, .int .u32 0, .int .u32 0, .string ByteArray.empty, .int .u32 0, .int .u32 0] rfl (by kernel_rfl) (by kernel_rfl) (by kernel_rfl)
      (OpenSpec.preRow_of_cond 8 hx (by kernel_rfl) (fun k hk => by obtain rfl := Option.some.inj hk; kernel_rfl) (by kernel_rfl) (laid_met os))) ?_
  intro W base args ds gs before hval0 hW hcn0_ hcnd hwz_ _ _ _
  have hk0 := hcnd Rows.uptoSmall rfl
  have hsz : (DataW.weightsEach Tryz.prog (Tryz.f3.params.toList ++ Rows.dataBackSpec.plain.varTypes Tryz.prog) (ds ++ gs)).all (· ≤ reachBytes) = true := hwz_
  have hval : ∀ (j : Nat) t v, Tryz.f3.params[j]? = some t → args[j]? = some v → Value.okWide Tryz.prog W .any base t v := hval0
  have hW' := hW
  obtain ⟨p, q, hA0, hV, rfl, hfz, hnd⟩ := hW
  have hA : DataW.TrodAll enc Tryz.prog W 0 (fun _ => true) true Tryz.f3.params.toList args.toList ds p := hA0
  rw [Tryz.params3] at hA hval hsz
  obtain ⟨v0, vs0, d0, ds0, p0, q0, hargs, rfl, rfl, h0, r0⟩ := trodAll_cons hA
  obtain ⟨v1, vs1, d1, ds1, p1, q1, rfl, rfl, rfl, h1, r1⟩ := trodAll_cons r0
  obtain ⟨v2, vs2, d2, ds2, p2, q2, rfl, rfl, rfl, h2, r2⟩ := trodAll_cons r1
  obtain ⟨v3, vs3, d3, ds3, p3, q3, rfl, rfl, rfl, h3, r3⟩ := trodAll_cons r2
  obtain ⟨v4, vs4, d4, ds4, p4, q4, rfl, rfl, rfl, h4, r4⟩ := trodAll_cons r3
  obtain ⟨v5, vs5, d5, ds5, p5, q5, rfl, rfl, rfl, h5, r5⟩ := trodAll_cons r4
  obtain ⟨rfl, rfl, rfl⟩ := trodAll_nil r5
  obtain rfl : args = #[v0, v1, v2, v3, v4, v5] := by cases args; simp_all
  obtain ⟨rfl, rfl⟩ := trodVars_none hV
  have k0 := h0
  have lt0 : ∀ x ∈ p0, x.block < W.heap.size := by obtain ⟨m, hm⟩ := k0; exact DataW.trod_lt m _ _ _ hm
  obtain ⟨a0, len0, cap0, rfl⟩ := okWide_slice Tryz.underlying22 (hval 0 22 v0 rfl rfl)
  obtain ⟨fuel0, hf0⟩ := h0
  obtain ⟨A0, c0, l0, hcs0, hlc0, hcm0, hC0, hG0, hB0, hx0⟩ := Z.Opens.row Tryz.underlying22 Z.opens54 (of_decide_eq_true (by kernel_rfl)) hf0
  simp only [Value.cells, List.cons.injEq, Value.slice.injEq, and_true] at hcs0
  obtain ⟨rfl, rfl, rfl⟩ := hcs0
  have hlm0 : l0.length ≤ maxLen := Nat.le_trans hlc0 hcm0
  have k1 := h1
  have lt1 : ∀ x ∈ p1, x.block < W.heap.size := by obtain ⟨m, hm⟩ := k1; exact DataW.trod_lt m _ _ _ hm
  obtain ⟨a1, rfl, rfl, rfl, w1⟩ := open_int Tryz.underlying23 (hval 1 23 v1 rfl rfl) h1
  have k2 := h2
  have lt2 : ∀ x ∈ p2, x.block < W.heap.size := by obtain ⟨m, hm⟩ := k2; exact DataW.trod_lt m _ _ _ hm
  obtain ⟨a2, rfl, rfl, rfl, w2⟩ := open_int Tryz.underlying23 (hval 2 23 v2 rfl rfl) h2
  have k3 := h3
  have lt3 : ∀ x ∈ p3, x.block < W.heap.size := by obtain ⟨m, hm⟩ := k3; exact DataW.trod_lt m _ _ _ hm
  obtain ⟨a3, rfl, rfl, rfl, y3⟩ := open_string Tryz.underlying9 (hval 3 9 v3 rfl rfl) h3
  have w3 := y3
  have k4 := h4
  have lt4 : ∀ x ∈ p4, x.block < W.heap.size := by obtain ⟨m, hm⟩ := k4; exact DataW.trod_lt m _ _ _ hm
  obtain ⟨a4, rfl, rfl, rfl, w4⟩ := open_int Tryz.underlying23 (hval 4 23 v4 rfl rfl) h4
  have k5 := h5
  have lt5 : ∀ x ∈ p5, x.block < W.heap.size := by obtain ⟨m, hm⟩ := k5; exact DataW.trod_lt m _ _ _ hm
  obtain ⟨a5, rfl, rfl, rfl, w5⟩ := open_int Tryz.underlying23 (hval 5 23 v5 rfl rfl) h5
  have hbk : ((l0.map Z.B54).sum + 1) + 1 + 1 + (a3.size + 1) + 1 + 1 ≤ 1048576 := by
    have hb_ := of_decide_eq_true hk0
    simp only [Rows.uptoBulkAll, Rows.uptoBulk, List.append_nil, Array.length_toList, List.map_cons, List.map_nil] at hb_
    (try simp only [show ∀ s : ByteArray, s.data.size = s.size from fun _ => rfl] at hb_)
    (try dsimp only at hB0)
    omega
  have hP := Pure.DataBack l0 a1 a2 a3 a4 a5 hlm0 hG0 w1 w2 w3 w4 w5 hbk
  obtain ⟨k, hk⟩ := hP
  refine (Z.cambiumlaw13_DataBack.calls k _ _ l0 a1 a2 a3 a4 a5 true W hC0 hlc0 hk).mono fun e W' ⟨he, bel0⟩ => ?_
  have bel : Below W.heap.size W W' := bel0
  subst he
  exact ⟨_, rfl, _, _, _, [], _, [], hW', trodAll_mk1 (shut_bool Tryz.underlying4 _), (trodAll_cons_mk (Below.trod laidOut (by kernel_rfl) (of_decide_eq_true (by kernel_rfl)) k0 bel lt0) (trodAll_cons_mk (Below.trod laidOut (by kernel_rfl) (of_decide_eq_true (by kernel_rfl)) k1 bel lt1) (trodAll_cons_mk (Below.trod laidOut (by kernel_rfl) (of_decide_eq_true (by kernel_rfl)) k2 bel lt2) (trodAll_cons_mk (Below.trod laidOut (by kernel_rfl) (of_decide_eq_true (by kernel_rfl)) k3 bel lt3) (trodAll_cons_mk (Below.trod laidOut (by kernel_rfl) (of_decide_eq_true (by kernel_rfl)) k4 bel lt4) (trodAll_cons_mk (Below.trod laidOut (by kernel_rfl) (of_decide_eq_true (by kernel_rfl)) k5 bel lt5) trodAll_mk0)))))), rfl, bel.frame _, fun h => by cases h⟩
theorem over : Rows.DataBackUptoSaid :=
  OpenClaim.holds_of_cond 3 Tryz.f3 rfl rfl rfl rfl rfl rfl rfl ⟨rfl, rfl, rfl, rfl, rfl⟩ rfl rfl rfl rfl rfl (by kernel_rfl) Tryz.func3 (by kernel_rfl)
    (of_decide_eq_true (by kernel_rfl)) (by unfold Func.isWrapper; first | (rw [if_pos (by decide +kernel)]; kernel_rfl) | (rw [if_neg (by decide +kernel)]; exact ⟨rfl, rfl⟩))
    (fun os started H enc _ F => by rw [OpenClaim.pre_eq_preRow]; exact lifted os started H enc F)
theorem plain (f : FuncId) (fn : Func) (hf : Tryz.pinned.checked.prog.funcNamed "cambium/cambiumlaw13.DataBack" = some f) (hfn : Tryz.pinned.checked.prog.funcs[f]? = some fn) :
    false = Tryz.pinned.checked.prog.looks [] ∧ ∀ (j : Nat) t, fn.params[j]? = some t → Tryz.pinned.checked.prog.wantsStandIn t = false := by
  obtain rfl : f = 3 := Option.some.inj ((show Tryz.prog.funcNamed "cambium/cambiumlaw13.DataBack" = some 3 by kernel_rfl).symm.trans hf) |>.symm
  obtain rfl : fn = Tryz.f3 := (Option.some.inj (Tryz.func3.symm.trans hfn)).symm
  refine ⟨by kernel_rfl, fun j t ht => ?_⟩
  rw [Tryz.params3] at ht
  have hm := Array.mem_of_getElem? ht
  simp only [List.mem_toArray, List.mem_cons, List.not_mem_nil, or_false] at hm
  rcases hm with rfl | rfl | rfl | rfl | rfl | rfl <;> exact (show Tryz.prog.wantsStandIn _ = false by kernel_rfl)
theorem card : Rows.DataBackUptoCardSaid :=
  Claim7.holds_tied_plain_at .later [] _ _ _ _ over (fun _ h => by cases h) (by kernel_rfl) (fun _ h => by cases h) dataBackUpto_row_tie rfl ⟨rfl, rfl⟩ (by kernel_rfl) rfl plain (by kernel_rfl)
end Go.Proofs.YtnngbhdofgodiaaGreatDoor.dataBack
namespace Go.Proofs.YtnngbhdofgodiaaGreatDoor
theorem dataBack_holds : Rows.DataBackUptoCardSaid := dataBack.card
#print axioms dataBack_holds
end Go.Proofs.YtnngbhdofgodiaaGreatDoor
end
