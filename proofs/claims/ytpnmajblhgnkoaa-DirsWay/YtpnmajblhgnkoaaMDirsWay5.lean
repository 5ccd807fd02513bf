/- DirsWay: at every input the law's function returns true and leaves its arguments as they were; no condition beyond the row's own. Part 5 of 5: this session's own texts, laid together. -/
import Derived.Test.YtpnmajblhgnkoaaMB1
import Derived.Test.YtpnmajblhgnkoaaMB4
import Derived.Test.YtpnmajblhgnkoaaMB3
import Derived.Test.YtpnmajblhgnkoaaRows
import Derived.WalkKit
import Derived.ProofKit
import Derived.OpenShut
import Derived.ShutString
import Derived.ChangeOld
import Derived.Below
import Derived.SizedLaws
import Derived.Carry
section
-- Printed by a program of this session (mp.py) out of the translation.
namespace Go.Proofs.Ytpnmajblhgnkoaa.Z
open Go.RowKit Go.Proofs.YtpnmajblhgnkoaaW.PrintWords Go.Proofs.YtpnmajblhgnkoaaW.PrintLast Go.Proofs.YtpnmajblhgnkoaaW.PrintMore
attribute [local go_sem] max2_int min2_int max_two min_two max_three min_three max_four min_four   -- for this text's walks alone
set_option linter.unusedVariables false
set_option linter.unusedSimpArgs false

/-! ### cambiumlaw14_DirsWay: function 6 -/
def cambiumlaw14_DirsWay.j0 : Nat → List (S61) → List ByteArray → Int → Bool → Option (Bool)
  | 0, _, _, _, _ => none
  | k + 1, x0, x1, x2, x22 => if x22 = true then (some true) else ((dirs_Walk.f k x0 x1 false).bind fun bt353 => (if bt353.2 = 0 then (if 0 ≤ x2 then (if x2 ≤ (x1.length : Int) then ((dirs_Walk.f k x0 (x1.take (x2 : Int).toNat) true).bind fun bt356 => ((dirs_Get.f k x0 bt356.1).bind fun bt358 => (if bt356.2 = 0 then (if bt358.2.2.2.2.2 = 0 then (some (bt358.1 == 1)) else (some false)) else (some false)))) else (none)) else (none)) else (some true)))
def cambiumlaw14_DirsWay.f (k : Nat) (l0 : List (S61)) (l1 : List ByteArray) (a2 : Int) : Option (Bool) := (cambiumlaw14_lives.f k).bind fun t352 => (if t352 = true then (if a2 < 0 then (cambiumlaw14_DirsWay.j0 k l0 l1 a2 true) else (cambiumlaw14_DirsWay.j0 k l0 l1 a2 (decide (a2 ≥ (l1.length : Int))))) else (some false))
theorem cambiumlaw14_DirsWay.mono_l : ∀ k, (∀ y0 y1 y2 y3, LeO (cambiumlaw14_DirsWay.j0 k y0 y1 y2 y3) (cambiumlaw14_DirsWay.j0 (k + 1) y0 y1 y2 y3))
  | 0 => fun _ _ _ _ r h => by simp [cambiumlaw14_DirsWay.j0] at h
  | k + 1 => by
    have ih0 := cambiumlaw14_DirsWay.mono_l k
    · intro y0 y1 y2 y3
      unfold cambiumlaw14_DirsWay.j0
      repeat' first
      | (with_reducible exact ih0 _ _ _ _)
      | (with_reducible exact cambiumlaw14_lives.mono _)
      | (with_reducible exact dirs_Get.mono _ _ _)
      | (with_reducible exact dirs_Walk.mono _ _ _ _)
      | (with_reducible exact LeO.refl _)
      | (with_reducible exact LeO.none _)
      | (with_reducible refine LeO.ite ?_ ?_)
      | (with_reducible refine LeO.bind ?_ (fun _ => ?_))
      | exact ih0 _ _ _ _
      | exact cambiumlaw14_lives.mono _
      | exact dirs_Get.mono _ _ _
      | exact dirs_Walk.mono _ _ _ _
      | exact LeO.none _
      | refine LeO.ite ?_ ?_
      | refine LeO.bind ?_ (fun _ => ?_)
theorem cambiumlaw14_DirsWay.mono : ∀ a0 a1 a2 k, LeO (cambiumlaw14_DirsWay.f k a0 a1 a2) (cambiumlaw14_DirsWay.f (k + 1) a0 a1 a2) := by
  intro a0 a1 a2 k
  have ih0 := cambiumlaw14_DirsWay.mono_l k
  unfold cambiumlaw14_DirsWay.f
  repeat' first
      | (with_reducible exact ih0 _ _ _ _)
      | (with_reducible exact cambiumlaw14_lives.mono _)
      | (with_reducible exact dirs_Get.mono _ _ _)
      | (with_reducible exact dirs_Walk.mono _ _ _ _)
      | (with_reducible exact LeO.refl _)
      | (with_reducible exact LeO.none _)
      | (with_reducible refine LeO.ite ?_ ?_)
      | (with_reducible refine LeO.bind ?_ (fun _ => ?_))
      | exact ih0 _ _ _ _
      | exact cambiumlaw14_lives.mono _
      | exact dirs_Get.mono _ _ _
      | exact dirs_Walk.mono _ _ _ _
      | exact LeO.none _
      | refine LeO.ite ?_ ?_
      | refine LeO.bind ?_ (fun _ => ?_)
set_option maxHeartbeats 8000000 in
set_option maxRecDepth 100000 in
theorem cambiumlaw14_DirsWay.calls (k : Nat) (A0 : Option Addr) (c0 : Nat) (l0 : List (S61)) (A1 : Option Addr) (c1 : Nat) (l1 : List ByteArray) (a2 : Int) (r : Bool) (w : World) (hr0 : Kd.C k61 w A0 l0.length l0) (hc0 : l0.length ≤ c0) (hr1 : Kd.C Kd.string w A1 l1.length l1) (hc1 : l1.length ≤ c1) (h : cambiumlaw14_DirsWay.f k l0 l1 a2 = some r) (hT_ : r = true := by rfl) :
    Calls Try.prog 6 #[.slice A0 l0.length c0, .slice A1 l1.length c1, .int .i64 a2] w fun e w' => e = .returned (.bool r) ∧ Below w.heap.size w w' := by
  have HT_ := Aside0.mk hT_
  clear hT_
  have hu37 := Try.underlying37
  have HR0 := Aside0.mk hr0
  have HC0 := Aside0.mk hc0
  clear hr0 hc0
  have HR1 := Aside0.mk hr1
  have HC1 := Aside0.mk hc1
  clear hr1 hc1
  have HB := Aside0.mk (Below.refl w.heap.size w)
  have H : ((cambiumlaw14_lives.f k).bind fun t352 => (if t352 = true then (if a2 < 0 then (cambiumlaw14_DirsWay.j0 k l0 l1 a2 true) else (cambiumlaw14_DirsWay.j0 k l0 l1 a2 (decide (a2 ≥ (l1.length : Int))))) else (some false))) = some r := h
  clear h
  replace H := Option.bind_eq_some_iff.mp H
  obtain ⟨t352, A40, H⟩ := H
  replace H : (if t352 = true then (if a2 < 0 then (cambiumlaw14_DirsWay.j0 k l0 l1 a2 true) else (cambiumlaw14_DirsWay.j0 k l0 l1 a2 (decide (a2 ≥ (l1.length : Int))))) else (some false)) = some r := H
  have A4 := Aside0.mk A40
  clear A40
  by_cases c5 : t352 = true
  · subst c5
    have H1 : (if a2 < 0 then (cambiumlaw14_DirsWay.j0 k l0 l1 a2 true) else (cambiumlaw14_DirsWay.j0 k l0 l1 a2 (decide (a2 ≥ (l1.length : Int))))) = some r := by rw [if_pos rfl] at H; exact H
    clear H
    have H := H1
    clear H1
    have HC6 := Aside0.mk H
    clear H
    go_enter Try.func6, Try.ntmps6
    go_upto_region 3 with (first | ((with_reducible refine gate_callee (f := 7) rfl ?_); refine gl_ (some 13) Try.func7 #[] ?_; (with_reducible refine (cambiumlaw14_lives.calls k  true _ A4.out).mono ?_); rintro e w7 ⟨rfl, hb⟩; refine ⟨_, rfl, ?_⟩; have n0_ := Aside0.mk (below_step bel_ hb); clear HB; have HB := n0_; clear n0_; (try clear hb); (try clear hb2); (try clear hk); (try clear hi)))
    (try simp only [Act.put, List.setIfInBounds_toArray, List.set_cons_zero, List.set_cons_succ])
    go_cut [22] (fun v22 wc => ∃ (kq : Nat) (x22_5 : Bool), v22 = .bool x22_5 ∧ Aside0 (cambiumlaw14_DirsWay.j0 kq l0 l1 a2 x22_5 = some r) ∧ Aside0 (kq ≤ k) ∧ Aside0 (Below w.heap.size w wc))
    case first =>
      have H := HC6.out
      clear HC6
      by_cases c8 : a2 < 0
      · rw [if_pos c8] at H
        have c8b0 : decide (a2 < 0) = true := decide_eq_true c8
        clear c8
        (first | rw [c8b0] | (simp only [i64_w, i32_w]; rw [c8b0]) | skip)
        have H' := Aside0.mk H
        clear H
        go_wp2
        go_meet
        case rel => exact ⟨_, (true), (by first | rfl | (simp; done) | (simp [*]; done)), H', ⟨by first | omega | exact Nat.le_refl _⟩, ⟨bel_⟩⟩
      rw [if_neg c8] at H
      have c8b0 : decide (a2 < 0) = false := decide_eq_false c8
      clear c8
      (first | rw [c8b0] | (simp only [i64_w, i32_w]; rw [c8b0]) | skip)
      have H' := Aside0.mk H
      clear H
      go_wp2
      go_meet
      case rel => exact ⟨_, (decide (a2 ≥ (l1.length : Int))), (by first | rfl | (simp; done) | (simp [*]; done)), H', ⟨by first | omega | exact Nat.le_refl _⟩, ⟨bel_⟩⟩
    case rest =>
      clear HC6
      try clear c1
      try clear p2
      try clear c5
      try clear c6
      try clear c7
      try clear c8
      try clear c8b0
      obtain ⟨kq, x22_5, rfl, HA, HJ5, HB⟩ := hcut
      cases kq with
      | zero => exact absurd HA.out (by simp [cambiumlaw14_DirsWay.j0])
      | succ kj5 =>
        have H := HA.out
        clear HA
        simp only [cambiumlaw14_DirsWay.j0] at H
        by_cases c9 : x22_5 = true
        · subst c9
          have H1 : (some true) = some r := by rw [if_pos rfl] at H; exact H
          clear H
          have H := H1
          clear H1
          obtain rfl := Option.some.inj H
          go_wp2
          go_ret
          exact ⟨by first | rfl | (simp [errW_none, errW_some] <;> rfl) | (simp [*, errW_none, errW_some] <;> rfl), bel_⟩
        replace c9 := Bool.eq_false_iff.mpr c9
        subst c9
        have H1 : ((dirs_Walk.f kj5 l0 l1 false).bind fun bt353 => (if bt353.2 = 0 then (if 0 ≤ a2 then (if a2 ≤ (l1.length : Int) then ((dirs_Walk.f kj5 l0 (l1.take (a2 : Int).toNat) true).bind fun bt356 => ((dirs_Get.f kj5 l0 bt356.1).bind fun bt358 => (if bt356.2 = 0 then (if bt358.2.2.2.2.2 = 0 then (some (bt358.1 == 1)) else (some false)) else (some false)))) else (none)) else (none)) else (some true))) = some r := by rw [if_neg (show ¬ (false = true) by decide)] at H; exact H
        clear H
        have H := H1
        clear H1
        replace H := Option.bind_eq_some_iff.mp H
        obtain ⟨⟨t353, t354⟩, A100, H⟩ := H
        replace H : (if t354 = 0 then (if 0 ≤ a2 then (if a2 ≤ (l1.length : Int) then ((dirs_Walk.f kj5 l0 (l1.take (a2 : Int).toNat) true).bind fun bt356 => ((dirs_Get.f kj5 l0 bt356.1).bind fun bt358 => (if bt356.2 = 0 then (if bt358.2.2.2.2.2 = 0 then (some (bt358.1 == 1)) else (some false)) else (some false)))) else (none)) else (none)) else (some true)) = some r := H
        have A10 := Aside0.mk A100
        clear A100
        by_cases c11 : t354 = 0
        · rw [if_pos c11] at H
          have c11b0 : (t354 == 0) = true := beq_iff_eq.mpr c11
          have c11b1 : (t354 != 0) = false := bne_eq_false_iff_eq.mpr c11
          clear c11
          by_cases c12 : 0 ≤ a2
          · rw [if_pos c12] at H
            have c12b0 := eq_true c12
            have c12b1 : decide (0 ≤ a2) = true := decide_eq_true c12
            clear c12
            by_cases c13 : a2 ≤ (l1.length : Int)
            · rw [if_pos c13] at H
              have c13b0 := eq_true c13
              have c13b1 : decide (a2 ≤ (l1.length : Int)) = true := decide_eq_true c13
              clear c13
              replace H := Option.bind_eq_some_iff.mp H
              obtain ⟨⟨t356, t357⟩, A140, H⟩ := H
              replace H : ((dirs_Get.f kj5 l0 t356).bind fun bt358 => (if t357 = 0 then (if bt358.2.2.2.2.2 = 0 then (some (bt358.1 == 1)) else (some false)) else (some false))) = some r := H
              have A14 := Aside0.mk A140
              clear A140
              replace H := Option.bind_eq_some_iff.mp H
              obtain ⟨⟨t358, t359, t360, t361, t362, t363⟩, A150, H⟩ := H
              replace H : (if t357 = 0 then (if t363 = 0 then (some (t358 == 1)) else (some false)) else (some false)) = some r := H
              have A15 := Aside0.mk A150
              clear A150
              by_cases c16 : t357 = 0
              · rw [if_pos c16] at H
                have c16b0 : (t357 == 0) = true := beq_iff_eq.mpr c16
                have c16b1 : (t357 != 0) = false := bne_eq_false_iff_eq.mpr c16
                clear c16
                by_cases c17 : t363 = 0
                · rw [if_pos c17] at H
                  have c17b0 : (t363 == 0) = true := beq_iff_eq.mpr c17
                  have c17b1 : (t363 != 0) = false := bne_eq_false_iff_eq.mpr c17
                  clear c17
                  obtain rfl := Option.some.inj H
                  go_wp2_with (first | ((with_reducible refine gate_callee (f := 8) rfl ?_); refine gl_ (some 26) Try.func8 #[.slice A0 l0.length c0, .slice A1 l1.length c1, .bool false] ?_; (with_reducible refine (dirs_Walk.calls kj5 _ _ l0 _ _ l1 false t353 t354 _ ?side1 ?side2 ?side3 ?side4 A10.out).mono ?_); (case side1 => exact cb_ HR0); (case side2 => exact HC0.out); (case side3 => exact cb_ HR1); (case side4 => exact HC1.out); rintro e w18 ⟨rfl, hb⟩; refine ⟨_, rfl, ?_⟩; replace HB := hb_ hb; (try clear hb); (try clear hb2); (try clear hk); (try clear hi); obtain ⟨i019, hi019, _, hsz19, _⟩ := info_parts info9; obtain ⟨hcut19, hA19, hC19⟩ := print_take_of (P := Try.prog) Value.string (⟨#[]⟩ : ByteArray) 23 9 .i64 Try.underlying23 hi019 hsz19 A1 c1 l1 a2 (of_decide_eq_true (by first | (with_reducible assumption) | assumption)) (of_decide_eq_true (by first | (with_reducible assumption) | assumption)) HC1.out; have HR355 := Aside0.mk (Kd.C_of_reads (h1 := fun _ => rfl) (hA19 _ (Kd.reads_of_C HR1.out))); have HC355 := Aside0.mk hC19; clear hA19 hC19 hi019 hsz19) | ((with_reducible refine gate_callee (f := 8) rfl ?_); refine goesL_ (some 36) rfl rfl Try.func8 (by kernel_rfl) rfl #[.slice A0 l0.length c0, .slice A1 (l1.take (a2 : Int).toNat).length c1, .bool true] rfl (by (try simp only [List.map_toArray, List.map_cons, List.map_nil]); first | done | (rw [show (l1.take (a2 : Int).toNat).length = a2.toNat from (by rw [List.length_take]; have h_ : (a2 : Int) ≤ (l1.length : Int) := of_decide_eq_true (by first | (with_reducible assumption) | assumption); omega)] <;> rfl) | rfl | (simp only [List.length_drop, List.length_take]; rfl)) ?_; (with_reducible refine (dirs_Walk.calls kj5 _ _ l0 _ _ (l1.take (a2 : Int).toNat) true t356 t357 _ ?side1 ?side2 ?side3 ?side4 A14.out).mono ?_); (case side1 => exact cb_ HR0); (case side2 => exact HC0.out); (case side3 => exact cb_ HR355); (case side4 => exact HC355.out); rintro e w20 ⟨rfl, hb⟩; refine ⟨_, rfl, ?_⟩; replace HB := hb_ hb; (try clear hb); (try clear hb2); (try clear hk); (try clear hi)) | ((with_reducible refine gate_callee (f := 10) rfl ?_); refine gl_ (some 42) Try.func10 #[.slice A0 l0.length c0, .int .u32 t356] ?_; (with_reducible refine (dirs_Get.calls kj5 _ _ l0 t356 t358 t359 t360 t361 t362 t363 _ ?side1 ?side2 A15.out).mono ?_); (case side1 => exact cb_ HR0); (case side2 => exact HC0.out); rintro e w21 ⟨rfl, hb⟩; refine ⟨_, rfl, ?_⟩; replace HB := hb_ hb; (try clear hb); (try clear hb2); (try clear hk); (try clear hi)) | ((with_reducible refine gate_dst (N := 11) rfl ?_); (try (refine gate_guard (by rfl) ?_; dsimp only)); refine bx_ (N := 11) (cs := #[.int .u8 0, .int .u16 0, .int .u32 0, .int .u32 0, .string (⟨#[]⟩ : ByteArray)]) (t := 37) ?_; intro gb364 hg w22 hbox hb; have BK364 := Aside0.mk (hbox); have GW364 := ge_ hg; have GE364 := ge_ hg; replace HB := hb_ hb; clear hb hbox hg; obtain ⟨hcz23_0, hcz23_1, hcz23_2, hcz23_3, hcz23_4⟩ := cl5_ BK364; obtain ⟨hfz23_0, hfz23_1, hfz23_2, hfz23_3, hfz23_4⟩ := fz5_ BK364))
                  go_ret
                  exact ⟨by first | rfl | (simp [errW_none, errW_some] <;> rfl) | (simp [*, errW_none, errW_some] <;> rfl), bel_⟩
                rw [if_neg c17] at H
                have c17b0 : (t363 == 0) = false := beq_eq_false_iff_ne.mpr c17
                have c17b1 : (t363 != 0) = true := bne_iff_ne.mpr c17
                exact absurd ((Option.some.inj H).trans HT_.out) (by simp)
              rw [if_neg c16] at H
              have c16b0 : (t357 == 0) = false := beq_eq_false_iff_ne.mpr c16
              have c16b1 : (t357 != 0) = true := bne_iff_ne.mpr c16
              exact absurd ((Option.some.inj H).trans HT_.out) (by simp)
            rw [if_neg c13] at H
            exact absurd H (by simp)
          rw [if_neg c12] at H
          exact absurd H (by simp)
        rw [if_neg c11] at H
        have c11b0 : (t354 == 0) = false := beq_eq_false_iff_ne.mpr c11
        have c11b1 : (t354 != 0) = true := bne_iff_ne.mpr c11
        obtain rfl := Option.some.inj H
        go_wp2_with (first | ((with_reducible refine gate_callee (f := 8) rfl ?_); refine gl_ (some 26) Try.func8 #[.slice A0 l0.length c0, .slice A1 l1.length c1, .bool false] ?_; (with_reducible refine (dirs_Walk.calls kj5 _ _ l0 _ _ l1 false t353 t354 _ ?side1 ?side2 ?side3 ?side4 A10.out).mono ?_); (case side1 => exact cb_ HR0); (case side2 => exact HC0.out); (case side3 => exact cb_ HR1); (case side4 => exact HC1.out); rintro e w24 ⟨rfl, hb⟩; refine ⟨_, rfl, ?_⟩; replace HB := hb_ hb; (try clear hb); (try clear hb2); (try clear hk); (try clear hi)))
        go_ret
        exact ⟨by first | rfl | (simp [errW_none, errW_some] <;> rfl) | (simp [*, errW_none, errW_some] <;> rfl), bel_⟩
  replace c5 := Bool.eq_false_iff.mpr c5
  subst c5
  have H1 : (some false) = some r := by rw [if_neg (show ¬ (false = true) by decide)] at H; exact H
  clear H
  have H := H1
  clear H1
  exact absurd ((Option.some.inj H).trans HT_.out) (by simp)

end Go.Proofs.Ytpnmajblhgnkoaa.Z
end

section
/- DirsWay, over lists: the law's function answers true. -/
namespace Go.Proofs.Ytpnmajblhgnkoaa.Pure
open Go.RowKit Go.Proofs.Ytpnmajblhgnkoaa Go.Proofs.Ytpnmajblhgnkoaa.Z Go.Proofs.YtpnmajblhgnkoaaW.PrintWords Go.Proofs.Ytpnmajblhgnkoaa.PM
set_option linter.unusedVariables false
set_option linter.unusedSimpArgs false
theorem DirsWay : ∀ (l0 : List (S61)) (l1 : List ByteArray) (a2 : Int), l0.length ≤ maxLen → (∀ x ∈ l0, Z.G61 x) → l0.length * 32 ≤ 140737488351232 → l1.length ≤ maxLen → (∀ x ∈ l1, (fun s : ByteArray => s.size ≤ maxLen) x) → l1.length * 16 ≤ 140737488351232 → (Lit.int .i64 a2).wf = true → ∃ k, Z.cambiumlaw14_DirsWay.f k l0 l1 a2 = some true := by
  intro l ns n _ hf hl _ _ hn hw
  have hf : Fit l := hf
  refine Ev.rounds ?_
  unfold cambiumlaw14_DirsWay.f
  refine Ev.bind lives_f (Ev.ifp rfl ?_)
  have out : Ev (fun k => cambiumlaw14_DirsWay.j0 k l ns n true) true := Ev.step (fun k => by rw [cambiumlaw14_DirsWay.j0]) (Ev.ifp rfl (Ev.const rfl))
  refine Ev.ite (fun _ => out) (fun h0 => ?_)
  by_cases h1 : n ≥ (ns.length : Int)
  · rw [decide_eq_true h1]; exact out
  · rw [decide_eq_false h1]
    refine Ev.step (fun k => by rw [cambiumlaw14_DirsWay.j0]) (Ev.ifn (by decide) ?_)
    refine Ev.bind (Walk_f hf (by omega) ns (by omega) false) ?_
    refine Ev.ite (fun hz => ?_) (fun _ => Ev.const rfl)
    refine Ev.ifp (by omega) (Ev.ifp (by omega) ?_)
    unfold walkR at hz
    cases hs : lookS l with
    | none => rw [hs] at hz; exact absurd hz (show ¬ (9 : Int) = 0 by decide)
    | some s =>
      rw [hs] at hz
      have hr := look_rt hs
      have hlt : n.toNat < ns.length := by omega
      have hsplit : ns = ns.take n.toNat ++ ns[n.toNat] :: ns.drop (n.toNat + 1) := by
        rw [← List.drop_eq_getElem_cons hlt, List.take_append_drop]
      have hz' : (walkS l s false 8 (ns.take n.toNat ++ ns[n.toNat] :: ns.drop (n.toNat + 1)) 1).2 = 0 := by rw [← hsplit]; exact hz
      have hw := walk_way l s 8 _ _ _ 1 hz'
      have hroot : (s.ino 1).isSome = true := by
        have := hr.root
        cases hn1 : s.ino 1 with
        | none => rw [hn1] at this; exact absurd this (by decide)
        | some m => rfl
      have hi := walk_is hr true 8 (ns.take n.toNat) 1 hroot hw.1
      have hp := hr.pos hi
      have e : walkR l (ns.take n.toNat) true = walkS l s true 8 (ns.take n.toNat) 1 := by unfold walkR; rw [hs]
      refine Ev.bind (Walk_f hf (by omega) (ns.take n.toNat) (by rw [List.length_take]; omega) true) ?_
      rw [e]
      refine Ev.bind (Get_f hf (by omega) ⟨by omega, hp.2⟩) ?_
      refine Ev.ifp hw.1 ?_
      obtain ⟨m, hm⟩ := Option.isSome_iff_exists.1 hi
      have hk := hw.2
      unfold VS.kd at hk
      rw [hm] at hk
      have eg : getR (lookS l) (walkS l s true 8 (ns.take n.toNat) 1).1 = (m.kd, m.md, m.ln, m.sz, m.tg, 0) := by unfold getR; rw [hs]; simp only [hm]
      rw [eg]
      refine Ev.ifp rfl (Ev.const ?_)
      show some (m.kd == 1) = some true
      rw [show m.kd = 1 from hk]; rfl
end Go.Proofs.Ytpnmajblhgnkoaa.Pure
end

section
/- cambium/cambiumlaw14.DirsWay: at every input the law's function returns true, and each argument reads afterwards as before. Conditions: none beyond the row's own. Printed by a program of this session (mp.py) over the pure statement in YtpnmajblhgnkoaaPureDirsWay. -/
namespace Go.Proofs.Ytpnmajblhgnkoaa.dirsWay
open Go.ChangeShapes Go.WideShapes Go.ChangeAt Go.RowKit
open Go.ChangeMaps (open_string shut_string)
set_option linter.unusedVariables false
set_option linter.unusedSimpArgs false
theorem own : ownKnob Try.prog.godebug = none := by kernel_rfl
theorem laidOut : laidOutB Try.prog = true := by kernel_rfl
set_option maxHeartbeats 1000000 in
set_option maxRecDepth 100000 in
theorem lifted (os : Os) (started : os.Started) (H : Type) (enc : TypeId × Value → H) :
    ReturnsInHanded {} Try.checked os 6 .any (Rows.dirsWaySpec.pre6 enc Try.prog Try.f6 Rows.dirsWayRow.domain false) (Rows.dirsWaySpec.post enc Try.prog Try.f6 false true false false) := by
  refine returnsInHanded_of_change_sized (C := Try.checked) own started (by kernel_rfl) Try.func6
    (ChangeSpec.witness6 (enc := enc) (C := Try.checked) false ⟨#[], #[.slice none 0 0, .slice none 0 0, .int .i64 0], []⟩ 8 (by kernel_rfl) (by kernel_rfl) (by kernel_rfl) (by kernel_rfl)) ?_
  intro W base args ds gs before hval0 hW hcnd hwz_ _
  have hsz : (DataW.weightsEach Try.prog (Try.f6.params.toList ++ Rows.dirsWaySpec.plain.varTypes Try.prog) (ds ++ gs)).all (· ≤ reachBytes) = true := hwz_
  have hval : ∀ (j : Nat) t v, Try.f6.params[j]? = some t → args[j]? = some v → Value.okWide Try.prog W .any base t v := hval0
  have hW' := hW
  obtain ⟨p, q, hA0, hV, rfl, hfz, hnd⟩ := hW
  have hA : DataW.TrodAll enc Try.prog W 0 (fun _ => true) true Try.f6.params.toList args.toList ds p := hA0
  rw [Try.params6] at hA hval hsz
  obtain ⟨v0, vs0, d0, ds0, p0, q0, hargs, rfl, rfl, h0, r0⟩ := trodAll_cons hA
  obtain ⟨v1, vs1, d1, ds1, p1, q1, rfl, rfl, rfl, h1, r1⟩ := trodAll_cons r0
  obtain ⟨v2, vs2, d2, ds2, p2, q2, rfl, rfl, rfl, h2, r2⟩ := trodAll_cons r1
  obtain ⟨rfl, rfl, rfl⟩ := trodAll_nil r2
  obtain rfl : args = #[v0, v1, v2] := by cases args; simp_all
  obtain ⟨rfl, rfl⟩ := trodVars_none hV
  have k0 := h0
  have lt0 : ∀ x ∈ p0, x.block < W.heap.size := by obtain ⟨m, hm⟩ := k0; exact DataW.trod_lt m _ _ _ hm
  obtain ⟨a0, len0, cap0, rfl⟩ := okWide_slice Try.underlying22 (hval 0 22 v0 rfl rfl)
  obtain ⟨fuel0, hf0⟩ := h0
  obtain ⟨A0, c0, l0, hcs0, hlc0, hcm0, hC0, hG0, hB0, hx0⟩ := Z.Opens.row Try.underlying22 Z.opens61 (of_decide_eq_true (by kernel_rfl)) hf0
  simp only [Value.cells, List.cons.injEq, Value.slice.injEq, and_true] at hcs0
  obtain ⟨rfl, rfl, rfl⟩ := hcs0
  have hlm0 : l0.length ≤ maxLen := Nat.le_trans hlc0 hcm0
  have hsz0 : l0.length * 32 ≤ 140737488351232 := Z.sized_row hsz (j := 0) (t := 22) rfl rfl Try.underlying22 (by kernel_rfl) hx0
  have k1 := h1
  have lt1 : ∀ x ∈ p1, x.block < W.heap.size := by obtain ⟨m, hm⟩ := k1; exact DataW.trod_lt m _ _ _ hm
  obtain ⟨a1, len1, cap1, rfl⟩ := okWide_slice Try.underlying23 (hval 1 23 v1 rfl rfl)
  obtain ⟨fuel1, hf1⟩ := h1
  obtain ⟨A1, c1, l1, hcs1, hlc1, hcm1, hC1, hG1, hB1, hx1⟩ := Z.Opens.row Try.underlying23 (Z.Opens.string Try.underlying9 (by kernel_rfl)) (of_decide_eq_true (by kernel_rfl)) hf1
  simp only [Value.cells, List.cons.injEq, Value.slice.injEq, and_true] at hcs1
  obtain ⟨rfl, rfl, rfl⟩ := hcs1
  have hlm1 : l1.length ≤ maxLen := Nat.le_trans hlc1 hcm1
  have hsz1 : l1.length * 16 ≤ 140737488351232 := Z.sized_row hsz (j := 1) (t := 23) rfl rfl Try.underlying23 (by kernel_rfl) hx1
  have k2 := h2
  have lt2 : ∀ x ∈ p2, x.block < W.heap.size := by obtain ⟨m, hm⟩ := k2; exact DataW.trod_lt m _ _ _ hm
  obtain ⟨a2, rfl, rfl, rfl, w2⟩ := open_int Try.underlying3 (hval 2 3 v2 rfl rfl) h2
  have hP := Pure.DirsWay l0 l1 a2 hlm0 hG0 hsz0 hlm1 hG1 hsz1 w2
  obtain ⟨k, hk⟩ := hP
  refine (Z.cambiumlaw14_DirsWay.calls k _ _ l0 _ _ l1 a2 true W hC0 hlc0 hC1 hlc1 hk).mono fun e W' ⟨he, bel0⟩ => ?_
  have bel : Below W.heap.size W W' := bel0
  subst he
  exact ⟨_, rfl, _, _, _, [], _, [], hW', trodAll_mk1 (shut_bool Try.underlying4 _), (trodAll_cons_mk (Below.trod laidOut (by kernel_rfl) (of_decide_eq_true (by kernel_rfl)) k0 bel lt0) (trodAll_cons_mk (Below.trod laidOut (by kernel_rfl) (of_decide_eq_true (by kernel_rfl)) k1 bel lt1) (trodAll_cons_mk (Below.trod laidOut (by kernel_rfl) (of_decide_eq_true (by kernel_rfl)) k2 bel lt2) trodAll_mk0))), rfl, bel.frame _, fun h => by cases h⟩
theorem over : Rows.dirsWayRow.holds Try.pinned (OpenSpec.ofChange Rows.dirsWaySpec) :=
  OpenClaim.holds_of_wide 6 Try.f6 rfl rfl rfl rfl rfl rfl rfl ⟨rfl, rfl, rfl, rfl, rfl⟩ rfl rfl rfl rfl rfl (by kernel_rfl) Try.func6 (by kernel_rfl)
    (of_decide_eq_true (by kernel_rfl)) (by unfold Func.isWrapper; first | (rw [if_pos (by decide +kernel)]; kernel_rfl) | (rw [if_neg (by decide +kernel)]; exact ⟨rfl, rfl⟩))
    (fun os started H enc _ => lifted os started H enc)
end Go.Proofs.Ytpnmajblhgnkoaa.dirsWay
namespace Go.Proofs.Ytpnmajblhgnkoaa
theorem dirsWay_holds : Rows.DirsWaySaid := dirsWay.over
#print axioms dirsWay_holds
end Go.Proofs.Ytpnmajblhgnkoaa
end
