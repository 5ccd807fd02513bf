/- DataParts: at every input the law's function returns true and leaves its arguments as they were; no condition beyond the row's own. Part 5 of 5: this session's own texts, laid together. -/
import Derived.Test.YtnngbhdofgodiaaGreatDoorMB1
import Derived.Test.YtnngbhdofgodiaaGreatDoorMB4
import Derived.Test.YtnngbhdofgodiaaGreatDoorMB3
import Derived.Test.YtnngbhdofgodiaaGreatDoorCards
import Derived.Test.YtnngbhdofgodiaaGreatDoorTie
import Derived.Deep.DeepHandedRow
import Derived.WalkKit
import Derived.ProofKit
import Derived.OpenShut
import Derived.ShutString
import Derived.ChangeOld
import Derived.Below
import Derived.SizedLaws
import Derived.Carry
section
-- Printed by a program of this session (mp.py) out of the translation.
namespace Go.Proofs.YtnngbhdofgodiaaGreatDoor.Z
open Go.RowKit Go.Proofs.YtnngbhdofgodiaaGreatDoorW.PrintWords Go.Proofs.YtnngbhdofgodiaaGreatDoorW.PrintLast Go.Proofs.YtnngbhdofgodiaaGreatDoorW.PrintMore
attribute [local go_sem] max2_int min2_int max_two min_two max_three min_three max_four min_four   -- for this text's walks alone
set_option linter.unusedVariables false
set_option linter.unusedSimpArgs false

/-! ### cambiumlaw13_DataParts: function 5 -/
def cambiumlaw13_DataParts.j0 : Nat → List (S54) → Int → Int → Int → Int → Int → Bool → Option (Bool)
  | 0, _, _, _, _, _, _, _ => none
  | k + 1, x0, x1, x2, x3, x4, x5, x30 => if x30 = true then (some true) else ((data_Read.f k x0 x1 x2 x3 x4).bind fun bt299 => ((data_Read.f k x0 x1 x2 ((x3 + x4) % 4294967296) x5).bind fun bt301 => ((data_Read.f k x0 x1 x2 x3 ((x4 + x5) % 4294967296)).bind fun bt303 => (if bt299.2 = bt301.2 then (if bt301.2 = bt303.2 then (if bt299.1.size + bt301.1.size ≤ 9223372036854775807 then (some ((bt299.1 ++ bt301.1).toList == bt303.1.toList)) else (none)) else (some false)) else (some false)))))
def cambiumlaw13_DataParts.f (k : Nat) (l0 : List (S54)) (a1 : Int) (a2 : Int) (a3 : Int) (a4 : Int) (a5 : Int) : Option (Bool) := (cambiumlaw13_lives.f k).bind fun t298 => (if t298 = true then (if a4 > 1048576 then (cambiumlaw13_DataParts.j0 k l0 a1 a2 a3 a4 a5 true) else (if a5 > 1048576 then (cambiumlaw13_DataParts.j0 k l0 a1 a2 a3 a4 a5 true) else (cambiumlaw13_DataParts.j0 k l0 a1 a2 a3 a4 a5 (decide (a3 > 1048576))))) else (some false))
theorem cambiumlaw13_DataParts.mono_l : ∀ k, (∀ y0 y1 y2 y3 y4 y5 y6, LeO (cambiumlaw13_DataParts.j0 k y0 y1 y2 y3 y4 y5 y6) (cambiumlaw13_DataParts.j0 (k + 1) y0 y1 y2 y3 y4 y5 y6))
  | 0 => fun _ _ _ _ _ _ _ r h => by simp [cambiumlaw13_DataParts.j0] at h
  | k + 1 => by
    have ih0 := cambiumlaw13_DataParts.mono_l k
    · intro y0 y1 y2 y3 y4 y5 y6
      unfold cambiumlaw13_DataParts.j0
      repeat' first
      | (with_reducible exact ih0 _ _ _ _ _ _ _)
      | (with_reducible exact cambiumlaw13_lives.mono _)
      | (with_reducible exact data_Read.mono _ _ _ _ _ _)
      | (with_reducible exact LeO.refl _)
      | (with_reducible exact LeO.none _)
      | (with_reducible refine LeO.ite ?_ ?_)
      | (with_reducible refine LeO.bind ?_ (fun _ => ?_))
      | exact ih0 _ _ _ _ _ _ _
      | exact cambiumlaw13_lives.mono _
      | exact data_Read.mono _ _ _ _ _ _
      | exact LeO.none _
      | refine LeO.ite ?_ ?_
      | refine LeO.bind ?_ (fun _ => ?_)
theorem cambiumlaw13_DataParts.mono : ∀ a0 a1 a2 a3 a4 a5 k, LeO (cambiumlaw13_DataParts.f k a0 a1 a2 a3 a4 a5) (cambiumlaw13_DataParts.f (k + 1) a0 a1 a2 a3 a4 a5) := by
  intro a0 a1 a2 a3 a4 a5 k
  have ih0 := cambiumlaw13_DataParts.mono_l k
  unfold cambiumlaw13_DataParts.f
  repeat' first
      | (with_reducible exact ih0 _ _ _ _ _ _ _)
      | (with_reducible exact cambiumlaw13_lives.mono _)
      | (with_reducible exact data_Read.mono _ _ _ _ _ _)
      | (with_reducible exact LeO.refl _)
      | (with_reducible exact LeO.none _)
      | (with_reducible refine LeO.ite ?_ ?_)
      | (with_reducible refine LeO.bind ?_ (fun _ => ?_))
      | exact ih0 _ _ _ _ _ _ _
      | exact cambiumlaw13_lives.mono _
      | exact data_Read.mono _ _ _ _ _ _
      | exact LeO.none _
      | refine LeO.ite ?_ ?_
      | refine LeO.bind ?_ (fun _ => ?_)
set_option maxHeartbeats 8000000 in
set_option maxRecDepth 100000 in
theorem cambiumlaw13_DataParts.calls (k : Nat) (A0 : Option Addr) (c0 : Nat) (l0 : List (S54)) (a1 : Int) (a2 : Int) (a3 : Int) (a4 : Int) (a5 : Int) (r : Bool) (w : World) (hr0 : Kd.C k54 w A0 l0.length l0) (hc0 : l0.length ≤ c0) (h : cambiumlaw13_DataParts.f k l0 a1 a2 a3 a4 a5 = some r) (hT_ : r = true := by rfl) :
    Calls Tryz.prog 5 #[.slice A0 l0.length c0, .int .u32 a1, .int .u32 a2, .int .u32 a3, .int .u32 a4, .int .u32 a5] w fun e w' => e = .returned (.bool r) ∧ Below w.heap.size w w' := by
  have HT_ := Aside0.mk hT_
  clear hT_
  have HR0 := Aside0.mk hr0
  have HC0 := Aside0.mk hc0
  clear hr0 hc0
  have HB := Aside0.mk (Below.refl w.heap.size w)
  have H : ((cambiumlaw13_lives.f k).bind fun t298 => (if t298 = true then (if a4 > 1048576 then (cambiumlaw13_DataParts.j0 k l0 a1 a2 a3 a4 a5 true) else (if a5 > 1048576 then (cambiumlaw13_DataParts.j0 k l0 a1 a2 a3 a4 a5 true) else (cambiumlaw13_DataParts.j0 k l0 a1 a2 a3 a4 a5 (decide (a3 > 1048576))))) else (some false))) = some r := h
  clear h
  replace H := Option.bind_eq_some_iff.mp H
  obtain ⟨t298, A70, H⟩ := H
  replace H : (if t298 = true then (if a4 > 1048576 then (cambiumlaw13_DataParts.j0 k l0 a1 a2 a3 a4 a5 true) else (if a5 > 1048576 then (cambiumlaw13_DataParts.j0 k l0 a1 a2 a3 a4 a5 true) else (cambiumlaw13_DataParts.j0 k l0 a1 a2 a3 a4 a5 (decide (a3 > 1048576))))) else (some false)) = some r := H
  have A7 := Aside0.mk A70
  clear A70
  by_cases c8 : t298 = true
  · subst c8
    have H1 : (if a4 > 1048576 then (cambiumlaw13_DataParts.j0 k l0 a1 a2 a3 a4 a5 true) else (if a5 > 1048576 then (cambiumlaw13_DataParts.j0 k l0 a1 a2 a3 a4 a5 true) else (cambiumlaw13_DataParts.j0 k l0 a1 a2 a3 a4 a5 (decide (a3 > 1048576))))) = some r := by rw [if_pos rfl] at H; exact H
    clear H
    have H := H1
    clear H1
    have HC9 := Aside0.mk H
    clear H
    go_enter Tryz.func5, Tryz.ntmps5
    go_upto_region 3 with (first | ((with_reducible refine gate_callee (f := 8) rfl ?_); refine gl_ (some 19) Tryz.func8 #[] ?_; (with_reducible refine (cambiumlaw13_lives.calls k  true _ A7.out).mono ?_); rintro e w10 ⟨rfl, hb⟩; refine ⟨_, rfl, ?_⟩; have n0_ := Aside0.mk (below_step bel_ hb); clear HB; have HB := n0_; clear n0_; (try clear hb); (try clear hb2); (try clear hk); (try clear hi)))
    (try simp only [Act.put, List.setIfInBounds_toArray, List.set_cons_zero, List.set_cons_succ])
    go_cut [30] (fun v30 wc => ∃ (kq : Nat) (x30_8 : Bool), v30 = .bool x30_8 ∧ Aside0 (cambiumlaw13_DataParts.j0 kq l0 a1 a2 a3 a4 a5 x30_8 = some r) ∧ Aside0 (kq ≤ k) ∧ Aside0 (Below w.heap.size w wc))
    case first =>
      have H := HC9.out
      clear HC9
      by_cases c11 : a4 > 1048576
      · rw [if_pos c11] at H
        have c11b0 : decide (1048576 < a4) = true := decide_eq_true c11
        clear c11
        (first | rw [c11b0] | (simp only [i64_w, i32_w]; rw [c11b0]) | skip)
        have H' := Aside0.mk H
        clear H
        go_wp2
        go_meet
        case rel => exact ⟨_, (true), (by first | rfl | (simp; done) | (simp [*]; done)), H', ⟨by first | omega | exact Nat.le_refl _⟩, ⟨bel_⟩⟩
      rw [if_neg c11] at H
      have c11b0 : decide (1048576 < a4) = false := decide_eq_false c11
      clear c11
      (first | rw [c11b0] | (simp only [i64_w, i32_w]; rw [c11b0]) | skip)
      by_cases c12 : a5 > 1048576
      · rw [if_pos c12] at H
        have c12b0 : decide (1048576 < a5) = true := decide_eq_true c12
        clear c12
        have H' := Aside0.mk H
        clear H
        go_wp2
        go_meet
        case rel => exact ⟨_, (true), (by first | rfl | (simp; done) | (simp [*]; done)), H', ⟨by first | omega | exact Nat.le_refl _⟩, ⟨bel_⟩⟩
      rw [if_neg c12] at H
      have c12b0 : decide (1048576 < a5) = false := decide_eq_false c12
      clear c12
      have H' := Aside0.mk H
      clear H
      go_wp2
      go_meet
      case rel => exact ⟨_, (decide (a3 > 1048576)), (by first | rfl | (simp; done) | (simp [*]; done)), H', ⟨by first | omega | exact Nat.le_refl _⟩, ⟨bel_⟩⟩
    case rest =>
      clear HC9
      try clear c1
      try clear p2
      try clear c5
      try clear c8
      try clear c11
      try clear c11b0
      try clear c12
      try clear c12b0
      obtain ⟨kq, x30_8, rfl, HA, HJ8, HB⟩ := hcut
      cases kq with
      | zero => exact absurd HA.out (by simp [cambiumlaw13_DataParts.j0])
      | succ kj8 =>
        have H := HA.out
        clear HA
        simp only [cambiumlaw13_DataParts.j0] at H
        by_cases c13 : x30_8 = true
        · subst c13
          have H1 : (some true) = some r := by rw [if_pos rfl] at H; exact H
          clear H
          have H := H1
          clear H1
          obtain rfl := Option.some.inj H
          go_wp2
          go_ret
          exact ⟨by first | rfl | (simp [errW_none, errW_some] <;> rfl) | (simp [*, errW_none, errW_some] <;> rfl), bel_⟩
        replace c13 := Bool.eq_false_iff.mpr c13
        subst c13
        have H1 : ((data_Read.f kj8 l0 a1 a2 a3 a4).bind fun bt299 => ((data_Read.f kj8 l0 a1 a2 ((a3 + a4) % 4294967296) a5).bind fun bt301 => ((data_Read.f kj8 l0 a1 a2 a3 ((a4 + a5) % 4294967296)).bind fun bt303 => (if bt299.2 = bt301.2 then (if bt301.2 = bt303.2 then (if bt299.1.size + bt301.1.size ≤ 9223372036854775807 then (some ((bt299.1 ++ bt301.1).toList == bt303.1.toList)) else (none)) else (some false)) else (some false))))) = some r := by rw [if_neg (show ¬ (false = true) by decide)] at H; exact H
        clear H
        have H := H1
        clear H1
        replace H := Option.bind_eq_some_iff.mp H
        obtain ⟨⟨t299, t300⟩, A140, H⟩ := H
        replace H : ((data_Read.f kj8 l0 a1 a2 ((a3 + a4) % 4294967296) a5).bind fun bt301 => ((data_Read.f kj8 l0 a1 a2 a3 ((a4 + a5) % 4294967296)).bind fun bt303 => (if t300 = bt301.2 then (if bt301.2 = bt303.2 then (if t299.size + bt301.1.size ≤ 9223372036854775807 then (some ((t299 ++ bt301.1).toList == bt303.1.toList)) else (none)) else (some false)) else (some false)))) = some r := H
        have A14 := Aside0.mk A140
        clear A140
        replace H := Option.bind_eq_some_iff.mp H
        obtain ⟨⟨t301, t302⟩, A150, H⟩ := H
        replace H : ((data_Read.f kj8 l0 a1 a2 a3 ((a4 + a5) % 4294967296)).bind fun bt303 => (if t300 = t302 then (if t302 = bt303.2 then (if t299.size + t301.size ≤ 9223372036854775807 then (some ((t299 ++ t301).toList == bt303.1.toList)) else (none)) else (some false)) else (some false))) = some r := H
        have A15 := Aside0.mk A150
        clear A150
        replace H := Option.bind_eq_some_iff.mp H
        obtain ⟨⟨t303, t304⟩, A160, H⟩ := H
        replace H : (if t300 = t302 then (if t302 = t304 then (if t299.size + t301.size ≤ 9223372036854775807 then (some ((t299 ++ t301).toList == t303.toList)) else (none)) else (some false)) else (some false)) = some r := H
        have A16 := Aside0.mk A160
        clear A160
        by_cases c17 : t300 = t302
        · rw [if_pos c17] at H
          have c17b0 : (t300 == t302) = true := beq_iff_eq.mpr c17
          have c17b1 : (t300 != t302) = false := bne_eq_false_iff_eq.mpr c17
          clear c17
          by_cases c18 : t302 = t304
          · rw [if_pos c18] at H
            have c18b0 : (t302 == t304) = true := beq_iff_eq.mpr c18
            have c18b1 : (t302 != t304) = false := bne_eq_false_iff_eq.mpr c18
            clear c18
            by_cases c19 : t299.size + t301.size ≤ 9223372036854775807
            · rw [if_pos c19] at H
              have c19b0 := eq_true c19
              have c19b1 : decide (t299.size + t301.size ≤ 9223372036854775807) = true := decide_eq_true c19
              try have c19b2 : (9223372036854775807 < t299.size + t301.size) = False := eq_false (Nat.not_lt.2 c19)
              obtain rfl := Option.some.inj H
              go_wp2_with (first | ((with_reducible refine gate_callee (f := 11) rfl ?_); refine gl_ (some 37) Tryz.func11 #[.slice A0 l0.length c0, .int .u32 a1, .int .u32 a2, .int .u32 a3, .int .u32 a4] ?_; (with_reducible refine (data_Read.calls kj8 _ _ l0 a1 a2 a3 a4 t299 t300 _ ?side1 ?side2 A14.out).mono ?_); (case side1 => exact cb_ HR0); (case side2 => exact HC0.out); rintro e w20 ⟨rfl, hb⟩; refine ⟨_, rfl, ?_⟩; replace HB := hb_ hb; (try clear hb); (try clear hb2); (try clear hk); (try clear hi)) | ((with_reducible refine gate_callee (f := 11) rfl ?_); refine gl_ (some 48) Tryz.func11 #[.slice A0 l0.length c0, .int .u32 a1, .int .u32 a2, .int .u32 ((a3 + a4) % 4294967296), .int .u32 a5] ?_; (with_reducible refine (data_Read.calls kj8 _ _ l0 a1 a2 ((a3 + a4) % 4294967296) a5 t301 t302 _ ?side1 ?side2 A15.out).mono ?_); (case side1 => exact cb_ HR0); (case side2 => exact HC0.out); rintro e w21 ⟨rfl, hb⟩; refine ⟨_, rfl, ?_⟩; replace HB := hb_ hb; (try clear hb); (try clear hb2); (try clear hk); (try clear hi)) | ((with_reducible refine gate_callee (f := 11) rfl ?_); refine gl_ (some 59) Tryz.func11 #[.slice A0 l0.length c0, .int .u32 a1, .int .u32 a2, .int .u32 a3, .int .u32 ((a4 + a5) % 4294967296)] ?_; (with_reducible refine (data_Read.calls kj8 _ _ l0 a1 a2 a3 ((a4 + a5) % 4294967296) t303 t304 _ ?side1 ?side2 A16.out).mono ?_); (case side1 => exact cb_ HR0); (case side2 => exact HC0.out); rintro e w22 ⟨rfl, hb⟩; refine ⟨_, rfl, ?_⟩; replace HB := hb_ hb; (try clear hb); (try clear hb2); (try clear hk); (try clear hi)))
              go_ret
              exact ⟨by first | rfl | (simp [errW_none, errW_some] <;> rfl) | (simp [*, errW_none, errW_some] <;> rfl), bel_⟩
            rw [if_neg c19] at H
            exact absurd H (by simp)
          rw [if_neg c18] at H
          have c18b0 : (t302 == t304) = false := beq_eq_false_iff_ne.mpr c18
          have c18b1 : (t302 != t304) = true := bne_iff_ne.mpr c18
          exact absurd ((Option.some.inj H).trans HT_.out) (by simp)
        rw [if_neg c17] at H
        have c17b0 : (t300 == t302) = false := beq_eq_false_iff_ne.mpr c17
        have c17b1 : (t300 != t302) = true := bne_iff_ne.mpr c17
        exact absurd ((Option.some.inj H).trans HT_.out) (by simp)
  replace c8 := Bool.eq_false_iff.mpr c8
  subst c8
  have H1 : (some false) = some r := by rw [if_neg (show ¬ (false = true) by decide)] at H; exact H
  clear H
  have H := H1
  clear H1
  exact absurd ((Option.some.inj H).trans HT_.out) (by simp)

end Go.Proofs.YtnngbhdofgodiaaGreatDoor.Z
end

section
/- DataParts, over lists: the law's function answers true. -/
namespace Go.Proofs.YtnngbhdofgodiaaGreatDoor.Pure
open Go.RowKit Go.Proofs.YtnngbhdofgodiaaGreatDoor Go.Proofs.YtnngbhdofgodiaaGreatDoor.Z Go.Proofs.YtnngbhdofgodiaaGreatDoorW.PrintWords Go.Proofs.YtnngbhdofgodiaaGreatDoor.PM
set_option linter.unusedVariables false
set_option linter.unusedSimpArgs false
theorem DataParts : ∀ (l0 : List (S54)) (a1 : Int) (a2 : Int) (a3 : Int) (a4 : Int) (a5 : Int), l0.length ≤ maxLen → (∀ x ∈ l0, Z.G54 x) → l0.length * 32 ≤ 140737488351232 → (Lit.int .u32 a1).wf = true → (Lit.int .u32 a2).wf = true → (Lit.int .u32 a3).wf = true → (Lit.int .u32 a4).wf = true → (Lit.int .u32 a5).wf = true → ∃ k, Z.cambiumlaw13_DataParts.f k l0 a1 a2 a3 a4 a5 = some true := by
  intro l ino len off a b _ _ hl w1 w2 w3 w4 w5
  have hi := wf32 w1
  have hn := wf32 w2
  have ho := wf32 w3
  have ha := wf32 w4
  have hb := wf32 w5
  refine Ev.rounds ?_
  unfold cambiumlaw13_DataParts.f
  refine Ev.bind lives_f (Ev.ifp rfl ?_)
  have out : Ev (fun k => cambiumlaw13_DataParts.j0 k l ino len off a b true) true := Ev.step (fun n => by rw [cambiumlaw13_DataParts.j0]) (Ev.ifp rfl (Ev.const rfl))
  refine Ev.ite (fun _ => out) (fun h1 => Ev.ite (fun _ => out) (fun h2 => ?_))
  by_cases h3 : off > 1048576
  · rw [decide_eq_true h3]
    exact out
  · rw [decide_eq_false h3]
    refine Ev.step (fun n => by rw [cambiumlaw13_DataParts.j0]) (Ev.ifn (by decide) ?_)
    rw [show (off + a) % 4294967296 = off + a by omega, show (a + b) % 4294967296 = a + b by omega]
    refine Ev.bind (data_Read_f l (by omega) hi hn.1 ho ha) (Ev.bind (data_Read_f l (by omega) hi hn.1 (by omega) hb) (Ev.bind (data_Read_f l (by omega) hi hn.1 ho (by omega)) ?_))
    by_cases hk : okL l = true
    · by_cases hc : ino = 0 ∨ len > 65536
      · have e : ∀ x y, readS l ino len x y = (ba [], 1) := fun x y => by unfold readS; rw [if_pos hk, if_pos hc]; rfl
        rw [e, e, e]
        exact Ev.ifp rfl (Ev.ifp rfl (Ev.ifp (by decide) (Ev.const (by dsimp only; rw [ba_app]; simp))))
      · have e : ∀ x y, readS l ino len x y = (ba ((List.range' x.toNat ((min len (x + y)).toNat - x.toNat)).map (byteD l ino)), 0) := fun x y => by unfold readS; rw [if_pos hk, if_neg hc]
        rw [e, e, e]
        have hlen : len ≤ 65536 := by
          by_cases h : len ≤ 65536
          · exact h
          · exact absurd (.inr (by omega)) hc
        refine Ev.ifp rfl (Ev.ifp rfl (Ev.ifp (by simp only [ba_size, List.length_map, List.length_range']; omega) (Ev.const ?_)))
        dsimp only
        rw [ba_app, ← List.map_append]
        have hr : List.range' off.toNat ((min len (off + a)).toNat - off.toNat) ++ List.range' (off + a).toNat ((min len (off + a + b)).toNat - (off + a).toNat) = List.range' off.toNat ((min len (off + (a + b))).toNat - off.toNat) := by
          by_cases h : len ≤ off + a
          · rw [show (min len (off + a + b)).toNat - (off + a).toNat = 0 by omega, show (min len (off + a)).toNat - off.toNat = (min len (off + (a + b))).toNat - off.toNat by omega]
            simp
          · have hr := List.range'_append_1 (s := off.toNat) (m := (min len (off + a)).toNat - off.toNat) (n := (min len (off + a + b)).toNat - (off + a).toNat)
            rw [show off.toNat + ((min len (off + a)).toNat - off.toNat) = (off + a).toNat by omega] at hr
            rw [hr]
            congr 1
            omega
        rw [hr]
        simp
    · have e : ∀ x y, readS l ino len x y = (ba [], 4) := fun x y => by unfold readS; rw [if_neg hk]; rfl
      rw [e, e, e]
      exact Ev.ifp rfl (Ev.ifp rfl (Ev.ifp (by decide) (Ev.const (by dsimp only; rw [ba_app]; simp))))
end Go.Proofs.YtnngbhdofgodiaaGreatDoor.Pure
end

section
/- cambium/cambiumlaw13.DataParts: at every input the law's function returns true, and each argument reads afterwards as before. Conditions: none beyond the row's own. Printed by a program of this session (mp.py) over the pure statement in YtnngbhdofgodiaaGreatDoorPureDataParts. -/
namespace Go.Proofs.YtnngbhdofgodiaaGreatDoor.dataParts
open Go.ChangeShapes Go.WideShapes Go.ChangeAt Go.RowKit
open Go.ChangeMaps (open_string shut_string)
set_option linter.unusedVariables false
set_option linter.unusedSimpArgs false
theorem own : ownKnob Tryz.prog.godebug = none := by kernel_rfl
theorem laidOut : laidOutB Tryz.prog = true := by kernel_rfl
def lay0 : Obj → Obj
  | .cells _ t frozen => .cells (((Pinned.numbers IntKind.u8 Pinned.utf8FirstZ : List (DataW Unit)).map (fun x => match x with | .lit (.int k v) => Value.int k v | _ => .int .u8 0)).toArray) t frozen
  | o => o
def lay1 : Obj → Obj
  | .cells _ t frozen => .cells #[.int .u8 128, .int .u8 191, .int .u8 160, .int .u8 191, .int .u8 128, .int .u8 159, .int .u8 144, .int .u8 191, .int .u8 128, .int .u8 143, .int .u8 0, .int .u8 0, .int .u8 0, .int .u8 0, .int .u8 0, .int .u8 0, .int .u8 0, .int .u8 0, .int .u8 0, .int .u8 0, .int .u8 0, .int .u8 0, .int .u8 0, .int .u8 0, .int .u8 0, .int .u8 0, .int .u8 0, .int .u8 0, .int .u8 0, .int .u8 0, .int .u8 0, .int .u8 0] t frozen
  | o => o
noncomputable def laidWorld (os : Os) : World :=
  { World.holding Tryz.prog os ⟨#[], #[], []⟩ with heap := ((World.holding Tryz.prog os ⟨#[], #[], []⟩).heap.modify 0 lay0).modify 1 lay1 }
theorem laid_met (os : Os) : laidMet Tryz.prog Rows.dataPartsRow.laid ((laidWorld os).forCall (fun _ _ => 0) ⟨#[], #[.slice none 0 0, .int .u32 0, .int .u32 0, .int .u32 0, .int .u32 0, .int .u32 0], []⟩).memory :=
  laidMet_of_run' 8 (by kernel_rfl) (by kernel_rfl)
theorem reads (os : Os) {H : Type} (enc : TypeId × Value → H) : ∃ places, DataW.whole enc Tryz.prog ((laidWorld os).forCall (fun _ _ => 0) ⟨#[], #[.slice none 0 0, .int .u32 0, .int .u32 0, .int .u32 0, .int .u32 0, .int .u32 0], []⟩).memory Tryz.f5.params.toList Rows.dataPartsSpec.vars false (#[.slice none 0 0, .int .u32 0, .int .u32 0, .int .u32 0, .int .u32 0, .int .u32 0] : Array Value).toList 8 = some ([.nil, .lit (.int .u32 0), .lit (.int .u32 0), .lit (.int .u32 0), .lit (.int .u32 0), .lit (.int .u32 0)], [], places) :=
  ⟨[], by kernel_rfl⟩
set_option maxHeartbeats 1000000 in
set_option maxRecDepth 100000 in
theorem lifted (os : Os) (started : os.Started) (H : Type) (enc : TypeId × Value → H) (F : Stop.Interp) :
    ReturnsInHanded {} Tryz.checked os 5 .any ((OpenSpec.ofChange Rows.dataPartsSpec).preRow enc Tryz.prog Tryz.f5 Rows.dataPartsRow.domain false Rows.dataPartsRow.laid) (((OpenSpec.ofChange Rows.dataPartsSpec).at F).post enc Tryz.prog Tryz.f5 false true false false) := by
  obtain ⟨places, hx⟩ := reads os enc
  refine returnsInHanded_of_row (C := Tryz.checked) (s := OpenSpec.ofChange Rows.dataPartsSpec) own started (by kernel_rfl) Tryz.func5
    (witness_row_at (enc := enc) (C := Tryz.checked) false (laidWorld os) #[.slice none 0 0, .int .u32 0, .int .u32 0, .int .u32 0, .int .u32 0, .int .u32 0] rfl (by kernel_rfl) (by kernel_rfl) (by kernel_rfl)
      (OpenSpec.preRow_of_cond 8 hx (by kernel_rfl) (fun k hk => by cases hk) (by kernel_rfl) (laid_met os))) ?_
  intro W base args ds gs before hval0 hW hcn0_ hcnd hwz_ _ _ _
  have hsz : (DataW.weightsEach Tryz.prog (Tryz.f5.params.toList ++ Rows.dataPartsSpec.plain.varTypes Tryz.prog) (ds ++ gs)).all (· ≤ reachBytes) = true := hwz_
  have hval : ∀ (j : Nat) t v, Tryz.f5.params[j]? = some t → args[j]? = some v → Value.okWide Tryz.prog W .any base t v := hval0
  have hW' := hW
  obtain ⟨p, q, hA0, hV, rfl, hfz, hnd⟩ := hW
  have hA : DataW.TrodAll enc Tryz.prog W 0 (fun _ => true) true Tryz.f5.params.toList args.toList ds p := hA0
  rw [Tryz.params5] at hA hval hsz
  obtain ⟨v0, vs0, d0, ds0, p0, q0, hargs, rfl, rfl, h0, r0⟩ := trodAll_cons hA
  obtain ⟨v1, vs1, d1, ds1, p1, q1, rfl, rfl, rfl, h1, r1⟩ := trodAll_cons r0
  obtain ⟨v2, vs2, d2, ds2, p2, q2, rfl, rfl, rfl, h2, r2⟩ := trodAll_cons r1
  obtain ⟨v3, vs3, d3, ds3, p3, q3, rfl, rfl, rfl, h3, r3⟩ := trodAll_cons r2
  obtain ⟨v4, vs4, d4, ds4, p4, q4, rfl, rfl, rfl, h4, r4⟩ := trodAll_cons r3
  obtain ⟨v5, vs5, d5, ds5, p5, q5, rfl, rfl, rfl, h5, r5⟩ := trodAll_cons r4
  obtain ⟨rfl, rfl, rfl⟩ := trodAll_nil r5
  obtain rfl : args = #[v0, v1, v2, v3, v4, v5] := by cases args; simp_all
  obtain ⟨rfl, rfl⟩ := trodVars_none hV
  have k0 := h0
  have lt0 : ∀ x ∈ p0, x.block < W.heap.size := by obtain ⟨m, hm⟩ := k0; exact DataW.trod_lt m _ _ _ hm
  obtain ⟨a0, len0, cap0, rfl⟩ := okWide_slice Tryz.underlying22 (hval 0 22 v0 rfl rfl)
  obtain ⟨fuel0, hf0⟩ := h0
  obtain ⟨A0, c0, l0, hcs0, hlc0, hcm0, hC0, hG0, hB0, hx0⟩ := Z.Opens.row Tryz.underlying22 Z.opens54 (of_decide_eq_true (by kernel_rfl)) hf0
  simp only [Value.cells, List.cons.injEq, Value.slice.injEq, and_true] at hcs0
  obtain ⟨rfl, rfl, rfl⟩ := hcs0
  have hlm0 : l0.length ≤ maxLen := Nat.le_trans hlc0 hcm0
  have hsz0 : l0.length * 32 ≤ 140737488351232 := Z.sized_row hsz (j := 0) (t := 22) rfl rfl Tryz.underlying22 (by kernel_rfl) hx0
  have k1 := h1
  have lt1 : ∀ x ∈ p1, x.block < W.heap.size := by obtain ⟨m, hm⟩ := k1; exact DataW.trod_lt m _ _ _ hm
  obtain ⟨a1, rfl, rfl, rfl, w1⟩ := open_int Tryz.underlying23 (hval 1 23 v1 rfl rfl) h1
  have k2 := h2
  have lt2 : ∀ x ∈ p2, x.block < W.heap.size := by obtain ⟨m, hm⟩ := k2; exact DataW.trod_lt m _ _ _ hm
  obtain ⟨a2, rfl, rfl, rfl, w2⟩ := open_int Tryz.underlying23 (hval 2 23 v2 rfl rfl) h2
  have k3 := h3
  have lt3 : ∀ x ∈ p3, x.block < W.heap.size := by obtain ⟨m, hm⟩ := k3; exact DataW.trod_lt m _ _ _ hm
  obtain ⟨a3, rfl, rfl, rfl, w3⟩ := open_int Tryz.underlying23 (hval 3 23 v3 rfl rfl) h3
  have k4 := h4
  have lt4 : ∀ x ∈ p4, x.block < W.heap.size := by obtain ⟨m, hm⟩ := k4; exact DataW.trod_lt m _ _ _ hm
  obtain ⟨a4, rfl, rfl, rfl, w4⟩ := open_int Tryz.underlying23 (hval 4 23 v4 rfl rfl) h4
  have k5 := h5
  have lt5 : ∀ x ∈ p5, x.block < W.heap.size := by obtain ⟨m, hm⟩ := k5; exact DataW.trod_lt m _ _ _ hm
  obtain ⟨a5, rfl, rfl, rfl, w5⟩ := open_int Tryz.underlying23 (hval 5 23 v5 rfl rfl) h5
  have hP := Pure.DataParts l0 a1 a2 a3 a4 a5 hlm0 hG0 hsz0 w1 w2 w3 w4 w5
  obtain ⟨k, hk⟩ := hP
  refine (Z.cambiumlaw13_DataParts.calls k _ _ l0 a1 a2 a3 a4 a5 true W hC0 hlc0 hk).mono fun e W' ⟨he, bel0⟩ => ?_
  have bel : Below W.heap.size W W' := bel0
  subst he
  exact ⟨_, rfl, _, _, _, [], _, [], hW', trodAll_mk1 (shut_bool Tryz.underlying4 _), (trodAll_cons_mk (Below.trod laidOut (by kernel_rfl) (of_decide_eq_true (by kernel_rfl)) k0 bel lt0) (trodAll_cons_mk (Below.trod laidOut (by kernel_rfl) (of_decide_eq_true (by kernel_rfl)) k1 bel lt1) (trodAll_cons_mk (Below.trod laidOut (by kernel_rfl) (of_decide_eq_true (by kernel_rfl)) k2 bel lt2) (trodAll_cons_mk (Below.trod laidOut (by kernel_rfl) (of_decide_eq_true (by kernel_rfl)) k3 bel lt3) (trodAll_cons_mk (Below.trod laidOut (by kernel_rfl) (of_decide_eq_true (by kernel_rfl)) k4 bel lt4) (trodAll_cons_mk (Below.trod laidOut (by kernel_rfl) (of_decide_eq_true (by kernel_rfl)) k5 bel lt5) trodAll_mk0)))))), rfl, bel.frame _, fun h => by cases h⟩
theorem over : Rows.DataPartsSaid :=
  OpenClaim.holds_of_cond 5 Tryz.f5 rfl rfl rfl rfl rfl rfl rfl ⟨rfl, rfl, rfl, rfl, rfl⟩ rfl rfl rfl rfl rfl (by kernel_rfl) Tryz.func5 (by kernel_rfl)
    (of_decide_eq_true (by kernel_rfl)) (by unfold Func.isWrapper; first | (rw [if_pos (by decide +kernel)]; kernel_rfl) | (rw [if_neg (by decide +kernel)]; exact ⟨rfl, rfl⟩))
    (fun os started H enc _ F => by rw [OpenClaim.pre_eq_preRow]; exact lifted os started H enc F)
theorem plain (f : FuncId) (fn : Func) (hf : Tryz.pinned.checked.prog.funcNamed "cambium/cambiumlaw13.DataParts" = some f) (hfn : Tryz.pinned.checked.prog.funcs[f]? = some fn) :
    false = Tryz.pinned.checked.prog.looks [] ∧ ∀ (j : Nat) t, fn.params[j]? = some t → Tryz.pinned.checked.prog.wantsStandIn t = false := by
  obtain rfl : f = 5 := Option.some.inj ((show Tryz.prog.funcNamed "cambium/cambiumlaw13.DataParts" = some 5 by kernel_rfl).symm.trans hf) |>.symm
  obtain rfl : fn = Tryz.f5 := (Option.some.inj (Tryz.func5.symm.trans hfn)).symm
  refine ⟨by kernel_rfl, fun j t ht => ?_⟩
  rw [Tryz.params5] at ht
  have hm := Array.mem_of_getElem? ht
  simp only [List.mem_toArray, List.mem_cons, List.not_mem_nil, or_false] at hm
  rcases hm with rfl | rfl | rfl | rfl | rfl | rfl <;> exact (show Tryz.prog.wantsStandIn _ = false by kernel_rfl)
theorem card : Rows.DataPartsCardSaid :=
  Claim7.holds_tied_plain_at .later [] _ _ _ _ over (fun _ h => by cases h) (by kernel_rfl) (fun _ h => by cases h) dataParts_row_tie rfl ⟨rfl, rfl⟩ (by kernel_rfl) rfl plain (by kernel_rfl)
end Go.Proofs.YtnngbhdofgodiaaGreatDoor.dataParts
namespace Go.Proofs.YtnngbhdofgodiaaGreatDoor
theorem dataParts_holds : Rows.DataPartsCardSaid := dataParts.card
#print axioms dataParts_holds
end Go.Proofs.YtnngbhdofgodiaaGreatDoor
end
