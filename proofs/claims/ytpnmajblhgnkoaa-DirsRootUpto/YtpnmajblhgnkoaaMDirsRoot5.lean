/- DirsRootUpto: at every input the law's function returns true and leaves its arguments as they were; condition: the arguments are of bulk at most 1048576. Part 5 of 5: this session's own texts, laid together. -/
import Derived.Test.YtpnmajblhgnkoaaMB1
import Derived.Test.YtpnmajblhgnkoaaMB4
import Derived.Test.YtpnmajblhgnkoaaMB3
import Derived.Test.YtpnmajblhgnkoaaRows
import Derived.WalkKit
import Derived.ProofKit
import Derived.OpenShut
import Derived.ShutString
import Derived.ChangeOld
import Derived.Below
import Derived.SizedLaws
import Derived.Carry
import Derived.JoinedCond
import Derived.Deep.CondSized
section
-- Printed by a program of this session (mp.py) out of the translation.
namespace Go.Proofs.Ytpnmajblhgnkoaa.Z
open Go.RowKit Go.Proofs.YtpnmajblhgnkoaaW.PrintWords Go.Proofs.YtpnmajblhgnkoaaW.PrintLast Go.Proofs.YtpnmajblhgnkoaaW.PrintMore
attribute [local go_sem] max2_int min2_int max_two min_two max_three min_three max_four min_four   -- for this text's walks alone
set_option linter.unusedVariables false
set_option linter.unusedSimpArgs false

/-! ### cambiumlaw14_DirsRoot: function 5 -/
def cambiumlaw14_DirsRoot.l0 : Nat → List (S61) → Int → Int → Int → Int → Int → Int → List (S34) → Int → Int → Option (Bool)
  | 0, _, _, _, _, _, _, _, _, _, _ => none
  | k + 1, x0, x1, x5, x7, x8, x10, x12, x52, x53, x54 => if x54 < x53 then (if 0 ≤ x54 then (if x54 < (x52.length : Int) then ((dirs_Get.f k x0 ((rd_T34 x52 x54).f1)).bind fun bt338 => (if bt338.2.2.2.2.2 = 0 then (if bt338.1 = ((rd_T34 x52 x54).f2) then (if ((rd_T34 x52 x54).f1) = 1 then (some false) else (if ((rd_T34 x52 x54).f1) = x7 then (some false) else (cambiumlaw14_DirsRoot.l0 k x0 x1 x5 x7 x8 x10 x12 x52 x53 (wrap64 (x54 + 1))))) else (some false)) else (some false))) else (none)) else (none)) else ((dirs_Get.f k x0 x1).bind fun bt345 => (if x5 = 1 then (if x8 = 0 then (if x7 > 1 then (if x10 = 5 then (if bt345.2.2.2.2.2 = 0 then (some ((x12 == 0) == (bt345.1 == 1))) else (some ((x12 == 0) == false))) else (some false)) else (some false)) else (some false)) else (some false)))
def cambiumlaw14_DirsRoot.f (k : Nat) (l0 : List (S61)) (a1 : Int) : Option (Bool) := (cambiumlaw14_lives.f k).bind fun t319 => (if t319 = true then ((dirs_Walk.f k l0 ([] : List ByteArray) false).bind fun bt320 => (if bt320.2 = 0 then ((dirs_Next.f k l0).bind fun bt323 => ((dirs_Get.f k l0 bt323.1).bind fun bt325 => ((dirs_List.f k l0 a1).bind fun bt332 => (cambiumlaw14_DirsRoot.l0 k l0 a1 bt320.1 bt323.1 bt323.2 bt325.2.2.2.2.2 bt332.2 bt332.1 (bt332.1.length : Int) 0)))) else (if bt320.2 = 9 then ((dirs_Check.f k l0).bind fun t322 => (some (t322 == 9))) else (some false)))) else (some false))
theorem cambiumlaw14_DirsRoot.mono_l : ∀ k, (∀ y0 y1 y2 y3 y4 y5 y6 y7 y8 y9, LeO (cambiumlaw14_DirsRoot.l0 k y0 y1 y2 y3 y4 y5 y6 y7 y8 y9) (cambiumlaw14_DirsRoot.l0 (k + 1) y0 y1 y2 y3 y4 y5 y6 y7 y8 y9))
  | 0 => fun _ _ _ _ _ _ _ _ _ _ r h => by simp [cambiumlaw14_DirsRoot.l0] at h
  | k + 1 => by
    have ih0 := cambiumlaw14_DirsRoot.mono_l k
    · intro y0 y1 y2 y3 y4 y5 y6 y7 y8 y9
      unfold cambiumlaw14_DirsRoot.l0
      repeat' first
      | (with_reducible exact ih0 _ _ _ _ _ _ _ _ _ _)
      | (with_reducible exact cambiumlaw14_lives.mono _)
      | (with_reducible exact dirs_Check.mono _ _)
      | (with_reducible exact dirs_Get.mono _ _ _)
      | (with_reducible exact dirs_List.mono _ _ _)
      | (with_reducible exact dirs_Next.mono _ _)
      | (with_reducible exact dirs_Walk.mono _ _ _ _)
      | (with_reducible exact LeO.refl _)
      | (with_reducible exact LeO.none _)
      | (with_reducible refine LeO.ite ?_ ?_)
      | (with_reducible refine LeO.bind ?_ (fun _ => ?_))
      | exact ih0 _ _ _ _ _ _ _ _ _ _
      | exact cambiumlaw14_lives.mono _
      | exact dirs_Check.mono _ _
      | exact dirs_Get.mono _ _ _
      | exact dirs_List.mono _ _ _
      | exact dirs_Next.mono _ _
      | exact dirs_Walk.mono _ _ _ _
      | exact LeO.none _
      | refine LeO.ite ?_ ?_
      | refine LeO.bind ?_ (fun _ => ?_)
theorem cambiumlaw14_DirsRoot.mono : ∀ a0 a1 k, LeO (cambiumlaw14_DirsRoot.f k a0 a1) (cambiumlaw14_DirsRoot.f (k + 1) a0 a1) := by
  intro a0 a1 k
  have ih0 := cambiumlaw14_DirsRoot.mono_l k
  unfold cambiumlaw14_DirsRoot.f
  repeat' first
      | (with_reducible exact ih0 _ _ _ _ _ _ _ _ _ _)
      | (with_reducible exact cambiumlaw14_lives.mono _)
      | (with_reducible exact dirs_Check.mono _ _)
      | (with_reducible exact dirs_Get.mono _ _ _)
      | (with_reducible exact dirs_List.mono _ _ _)
      | (with_reducible exact dirs_Next.mono _ _)
      | (with_reducible exact dirs_Walk.mono _ _ _ _)
      | (with_reducible exact LeO.refl _)
      | (with_reducible exact LeO.none _)
      | (with_reducible refine LeO.ite ?_ ?_)
      | (with_reducible refine LeO.bind ?_ (fun _ => ?_))
      | exact ih0 _ _ _ _ _ _ _ _ _ _
      | exact cambiumlaw14_lives.mono _
      | exact dirs_Check.mono _ _
      | exact dirs_Get.mono _ _ _
      | exact dirs_List.mono _ _ _
      | exact dirs_Next.mono _ _
      | exact dirs_Walk.mono _ _ _ _
      | exact LeO.none _
      | refine LeO.ite ?_ ?_
      | refine LeO.bind ?_ (fun _ => ?_)
set_option maxHeartbeats 8000000 in
set_option maxRecDepth 100000 in
theorem cambiumlaw14_DirsRoot.calls (k : Nat) (A0 : Option Addr) (c0 : Nat) (l0 : List (S61)) (a1 : Int) (r : Bool) (w : World) (hr0 : Kd.C k61 w A0 l0.length l0) (hc0 : l0.length ≤ c0) (h : cambiumlaw14_DirsRoot.f k l0 a1 = some r) (hT_ : r = true := by rfl) :
    Calls Try.prog 5 #[.slice A0 l0.length c0, .int .u32 a1] w fun e w' => e = .returned (.bool r) ∧ Below w.heap.size w w' := by
  have HT_ := Aside0.mk hT_
  clear hT_
  have hu37 := Try.underlying37
  have hu34 := Try.underlying34
  have HR0 := Aside0.mk hr0
  have HC0 := Aside0.mk hc0
  clear hr0 hc0
  have HB := Aside0.mk (Below.refl w.heap.size w)
  have H : ((cambiumlaw14_lives.f k).bind fun t319 => (if t319 = true then ((dirs_Walk.f k l0 ([] : List ByteArray) false).bind fun bt320 => (if bt320.2 = 0 then ((dirs_Next.f k l0).bind fun bt323 => ((dirs_Get.f k l0 bt323.1).bind fun bt325 => ((dirs_List.f k l0 a1).bind fun bt332 => (cambiumlaw14_DirsRoot.l0 k l0 a1 bt320.1 bt323.1 bt323.2 bt325.2.2.2.2.2 bt332.2 bt332.1 (bt332.1.length : Int) 0)))) else (if bt320.2 = 9 then ((dirs_Check.f k l0).bind fun t322 => (some (t322 == 9))) else (some false)))) else (some false))) = some r := h
  clear h
  replace H := Option.bind_eq_some_iff.mp H
  obtain ⟨t319, A30, H⟩ := H
  replace H : (if t319 = true then ((dirs_Walk.f k l0 ([] : List ByteArray) false).bind fun bt320 => (if bt320.2 = 0 then ((dirs_Next.f k l0).bind fun bt323 => ((dirs_Get.f k l0 bt323.1).bind fun bt325 => ((dirs_List.f k l0 a1).bind fun bt332 => (cambiumlaw14_DirsRoot.l0 k l0 a1 bt320.1 bt323.1 bt323.2 bt325.2.2.2.2.2 bt332.2 bt332.1 (bt332.1.length : Int) 0)))) else (if bt320.2 = 9 then ((dirs_Check.f k l0).bind fun t322 => (some (t322 == 9))) else (some false)))) else (some false)) = some r := H
  have A3 := Aside0.mk A30
  clear A30
  by_cases c4 : t319 = true
  · subst c4
    have H1 : ((dirs_Walk.f k l0 ([] : List ByteArray) false).bind fun bt320 => (if bt320.2 = 0 then ((dirs_Next.f k l0).bind fun bt323 => ((dirs_Get.f k l0 bt323.1).bind fun bt325 => ((dirs_List.f k l0 a1).bind fun bt332 => (cambiumlaw14_DirsRoot.l0 k l0 a1 bt320.1 bt323.1 bt323.2 bt325.2.2.2.2.2 bt332.2 bt332.1 (bt332.1.length : Int) 0)))) else (if bt320.2 = 9 then ((dirs_Check.f k l0).bind fun t322 => (some (t322 == 9))) else (some false)))) = some r := by rw [if_pos rfl] at H; exact H
    clear H
    have H := H1
    clear H1
    replace H := Option.bind_eq_some_iff.mp H
    obtain ⟨⟨t320, t321⟩, A50, H⟩ := H
    replace H : (if t321 = 0 then ((dirs_Next.f k l0).bind fun bt323 => ((dirs_Get.f k l0 bt323.1).bind fun bt325 => ((dirs_List.f k l0 a1).bind fun bt332 => (cambiumlaw14_DirsRoot.l0 k l0 a1 t320 bt323.1 bt323.2 bt325.2.2.2.2.2 bt332.2 bt332.1 (bt332.1.length : Int) 0)))) else (if t321 = 9 then ((dirs_Check.f k l0).bind fun t322 => (some (t322 == 9))) else (some false))) = some r := H
    have A5 := Aside0.mk A50
    clear A50
    by_cases c6 : t321 = 0
    · rw [if_pos c6] at H
      have c6b0 : (t321 == 0) = true := beq_iff_eq.mpr c6
      have c6b1 : (t321 != 0) = false := bne_eq_false_iff_eq.mpr c6
      clear c6
      replace H := Option.bind_eq_some_iff.mp H
      obtain ⟨⟨t323, t324⟩, A70, H⟩ := H
      replace H : ((dirs_Get.f k l0 t323).bind fun bt325 => ((dirs_List.f k l0 a1).bind fun bt332 => (cambiumlaw14_DirsRoot.l0 k l0 a1 t320 t323 t324 bt325.2.2.2.2.2 bt332.2 bt332.1 (bt332.1.length : Int) 0))) = some r := H
      have A7 := Aside0.mk A70
      clear A70
      replace H := Option.bind_eq_some_iff.mp H
      obtain ⟨⟨t325, t326, t327, t328, t329, t330⟩, A80, H⟩ := H
      replace H : ((dirs_List.f k l0 a1).bind fun bt332 => (cambiumlaw14_DirsRoot.l0 k l0 a1 t320 t323 t324 t330 bt332.2 bt332.1 (bt332.1.length : Int) 0)) = some r := H
      have A8 := Aside0.mk A80
      clear A80
      replace H := Option.bind_eq_some_iff.mp H
      obtain ⟨⟨t332, t333⟩, A90, H⟩ := H
      replace H : (cambiumlaw14_DirsRoot.l0 k l0 a1 t320 t323 t324 t330 t333 t332 (t332.length : Int) 0) = some r := H
      have A9 := Aside0.mk A90
      clear A90
      have H' := Aside0.mk H
      clear H
      go_enter Try.func5, Try.ntmps5
      go_wp2_with (first | ((with_reducible refine gate_callee (f := 7) rfl ?_); refine gl_ (some 19) Try.func7 #[] ?_; (with_reducible refine (cambiumlaw14_lives.calls k  true _ A3.out).mono ?_); rintro e w10 ⟨rfl, hb⟩; refine ⟨_, rfl, ?_⟩; replace HB := hb_ hb; (try clear hb); (try clear hb2); (try clear hk); (try clear hi)) | ((with_reducible refine gate_callee (f := 8) rfl ?_); refine gl_ (some 23) Try.func8 #[.slice A0 l0.length c0, .slice none 0 0, .bool false] ?_; (refine (dirs_Walk.calls k _ _ l0 _ _ ([] : List ByteArray) false t320 t321 _ ?side1 ?side2 ?side3 ?side4 A5.out).mono ?_); (case side1 => exact cb_ HR0); (case side2 => exact HC0.out); (case side3 => exact Kd.C_nil _ _); (case side4 => exact Nat.le_refl _); rintro e w11 ⟨rfl, hb⟩; refine ⟨_, rfl, ?_⟩; replace HB := hb_ hb; (try clear hb); (try clear hb2); (try clear hk); (try clear hi)) | ((with_reducible refine gate_callee (f := 12) rfl ?_); refine gl_ (some 37) Try.func12 #[.slice A0 l0.length c0] ?_; (with_reducible refine (dirs_Next.calls k _ _ l0 t323 t324 _ ?side1 ?side2 A7.out).mono ?_); (case side1 => exact cb_ HR0); (case side2 => exact HC0.out); rintro e w12 ⟨rfl, hb⟩; refine ⟨_, rfl, ?_⟩; replace HB := hb_ hb; (try clear hb); (try clear hb2); (try clear hk); (try clear hi)) | ((with_reducible refine gate_callee (f := 10) rfl ?_); refine gl_ (some 43) Try.func10 #[.slice A0 l0.length c0, .int .u32 t323] ?_; (with_reducible refine (dirs_Get.calls k _ _ l0 t323 t325 t326 t327 t328 t329 t330 _ ?side1 ?side2 A8.out).mono ?_); (case side1 => exact cb_ HR0); (case side2 => exact HC0.out); rintro e w13 ⟨rfl, hb⟩; refine ⟨_, rfl, ?_⟩; replace HB := hb_ hb; (try clear hb); (try clear hb2); (try clear hk); (try clear hi)) | ((with_reducible refine gate_dst (N := 9) rfl ?_); refine bx_ (N := 9) (cs := #[.int .u8 0, .int .u16 0, .int .u32 0, .int .u32 0, .string (⟨#[]⟩ : ByteArray)]) (t := 37) ?_; intro gb331 hg w14 hbox hb; have BK331 := Aside0.mk (hbox); have GW331 := ge_ hg; have GE331 := ge_ hg; replace HB := hb_ hb; clear hb hbox hg; obtain ⟨hcz15_0, hcz15_1, hcz15_2, hcz15_3, hcz15_4⟩ := cl5_ BK331; obtain ⟨hfz15_0, hfz15_1, hfz15_2, hfz15_3, hfz15_4⟩ := fz5_ BK331) | ((with_reducible refine gate_callee (f := 9) rfl ?_); refine gl_ (some 49) Try.func9 #[.slice A0 l0.length c0, .int .u32 a1] ?_; (with_reducible refine (dirs_List.calls k _ _ l0 a1 t332 t333 _ ?side1 ?side2 A9.out).mono ?_); (case side1 => exact Kd.C_below HR0.out bel_); (case side2 => exact HC0.out); rintro e w16 ⟨v334, rfl, ho0, hb⟩; refine ⟨_, rfl, ?_⟩; have HO335 := rl_ ho0; replace BK331 := Aside0.mk (blk_below (g := gb331) (o := .cells #[.int .u8 t325, .int .u16 t326, .int .u32 t327, .int .u32 t328, .string t329] 37 (0, 0)) (bs_) hb); replace HB := hb_ hb; (try clear hb); (try clear hb2); (try clear hk); (try clear hi); (try clear ho0); obtain ⟨Ao17, co17, eo17⟩ := Kd.R_slice HO335.out; subst eo17))
      go_loopg [54] k (fun kq v54 w' => ∃ (x54_1 : Int), v54 = .int .i64 x54_1 ∧ Aside0 (cambiumlaw14_DirsRoot.l0 kq l0 a1 t320 t323 t324 t330 t333 t332 (t332.length : Int) x54_1 = some r) ∧ Aside0 (kq ≤ k) ∧ Aside0 (Kd.R k34 34 w' w.heap.size (fun _ => True) (.slice Ao17 t332.length co17) t332) ∧ Aside0 (w'.heap[gb331]? = some (.cells #[.int .u8 t325, .int .u16 t326, .int .u32 t327, .int .u32 t328, .string t329] 37 (0, 0))) ∧ Aside0 (Below w.heap.size w w'))
      case atStart => exact ⟨(0), (by first | rfl | (simp; done) | (simp [*]; done)), H', ⟨Nat.le_refl _⟩, ⟨ra_ HO335⟩, ⟨bk_ BK331⟩, ⟨bel_⟩⟩
      case round =>
        clear H'
        try clear c1
        try clear p2
        try clear c4
        try clear c5
        try clear c6
        try clear c6b0
        try clear c6b1
        try clear c7
        try clear c8
        try clear c9
        try clear c10
        try clear c12
        try clear hcz15_0
        try clear hcz15_1
        try clear hcz15_2
        try clear hcz15_3
        try clear hcz15_4
        try clear hfz15_0
        try clear hfz15_1
        try clear hfz15_2
        try clear hfz15_3
        try clear hfz15_4
        obtain ⟨x54_1, rfl, HA, HK1, HO_52, BK331, HB⟩ := hrel
        cases gk with
        | zero => exact absurd HA.out (by simp [cambiumlaw14_DirsRoot.l0])
        | succ k1 =>
          have H := HA.out
          clear HA
          simp only [cambiumlaw14_DirsRoot.l0] at H
          by_cases c18 : x54_1 < (t332.length : Int)
          · rw [if_pos c18] at H
            have c18b0 : decide (x54_1 < (t332.length : Int)) = true := decide_eq_true c18
            clear c18
            by_cases c19 : 0 ≤ x54_1
            · rw [if_pos c19] at H
              have c19b0 : decide (0 ≤ x54_1) = true := decide_eq_true c19
              clear c19
              by_cases c20 : x54_1 < (t332.length : Int)
              · rw [if_pos c20] at H
                have c20b0 : decide (x54_1 < (t332.length : Int)) = true := decide_eq_true c20
                clear c20
                replace H := Option.bind_eq_some_iff.mp H
                obtain ⟨⟨t338, t339, t340, t341, t342, t343⟩, A210, H⟩ := H
                replace H : (if t343 = 0 then (if t338 = ((rd_T34 t332 x54_1).f2) then (if ((rd_T34 t332 x54_1).f1) = 1 then (some false) else (if ((rd_T34 t332 x54_1).f1) = t323 then (some false) else (cambiumlaw14_DirsRoot.l0 k1 l0 a1 t320 t323 t324 t330 t333 t332 (t332.length : Int) (wrap64 (x54_1 + 1))))) else (some false)) else (some false)) = some r := H
                have A21 := Aside0.mk A210
                clear A210
                by_cases c22 : t343 = 0
                · rw [if_pos c22] at H
                  have c22b0 : (t343 == 0) = true := beq_iff_eq.mpr c22
                  have c22b1 : (t343 != 0) = false := bne_eq_false_iff_eq.mpr c22
                  clear c22
                  by_cases c23 : t338 = ((rd_T34 t332 x54_1).f2)
                  · rw [if_pos c23] at H
                    have c23b0 : (t338 == ((rd_T34 t332 x54_1).f2)) = true := beq_iff_eq.mpr c23
                    have c23b1 : (t338 != ((rd_T34 t332 x54_1).f2)) = false := bne_eq_false_iff_eq.mpr c23
                    clear c23
                    by_cases c24 : ((rd_T34 t332 x54_1).f1) = 1
                    · rw [if_pos c24] at H
                      have c24b0 : (((rd_T34 t332 x54_1).f1) == 1) = true := beq_iff_eq.mpr c24
                      have c24b1 : (((rd_T34 t332 x54_1).f1) != 1) = false := bne_eq_false_iff_eq.mpr c24
                      clear c24
                      exact absurd ((Option.some.inj H).trans HT_.out) (by simp)
                    rw [if_neg c24] at H
                    have c24b0 : (((rd_T34 t332 x54_1).f1) == 1) = false := beq_eq_false_iff_ne.mpr c24
                    have c24b1 : (((rd_T34 t332 x54_1).f1) != 1) = true := bne_iff_ne.mpr c24
                    by_cases c25 : ((rd_T34 t332 x54_1).f1) = t323
                    · rw [if_pos c25] at H
                      have c25b0 : (((rd_T34 t332 x54_1).f1) == t323) = true := beq_iff_eq.mpr c25
                      have c25b1 : (((rd_T34 t332 x54_1).f1) != t323) = false := bne_eq_false_iff_eq.mpr c25
                      clear c25
                      exact absurd ((Option.some.inj H).trans HT_.out) (by simp)
                    rw [if_neg c25] at H
                    have c25b0 : (((rd_T34 t332 x54_1).f1) == t323) = false := beq_eq_false_iff_ne.mpr c25
                    have c25b1 : (((rd_T34 t332 x54_1).f1) != t323) = true := bne_iff_ne.mpr c25
                    have H' := Aside0.mk H
                    clear H
                    have p336 : 0 ≤ (x54_1 : Int) := of_decide_eq_true (by first | (with_reducible assumption) | assumption)
                    have q336 : x54_1 < (t332.length : Int) := of_decide_eq_true (by first | (with_reducible assumption) | assumption)
                    obtain ⟨ad336, e336, hx336_0, hx336_1, hx336_2⟩ := at_T34 (Kd.R_reads' HO_52.out).2.2 x54_1 p336 q336
                    cases e336
                    replace p336 := eq_true p336
                    replace q336 := eq_true q336
                    go_wp2_with (first | ((with_reducible refine gate_dst (N := 14) rfl ?_); refine bx_ (N := 14) (cs := #[.string (⟨#[]⟩ : ByteArray), .int .u32 0, .int .u8 0]) (t := 34) ?_; intro gb337 hg w26 hbox hb; have BK337 := Aside0.mk (hbox); have GW337 := ge_ hg; have GE337 := ge_ hg; have NB331_337 := nl_ BK331 hg; have NB337_331 := ng_ BK331 hg; replace HO_52 := Aside0.mk (Kd.R_below (Kd.R_elderB (ra_ HO_52) gb337 (Nat.le_of_eq hg.symm)) hb); replace BK331 := kb_ BK331 hb; replace HB := hb_ hb; clear hb hbox hg; have hnb27 := NB337_331.out; have hnc27 := NB331_337.out; obtain ⟨hcz28_0, hcz28_1, hcz28_2⟩ := cl3_ BK337; obtain ⟨hfz28_0, hfz28_1, hfz28_2⟩ := fz3_ BK337) | ((with_reducible refine gate_callee (f := 10) rfl ?_); refine gl_ (some 62) Try.func10 #[.slice A0 l0.length c0, .int .u32 ((rd_T34 t332 x54_1).f1)] ?_; (with_reducible refine (dirs_Get.calls k1 _ _ l0 ((rd_T34 t332 x54_1).f1) t338 t339 t340 t341 t342 t343 _ ?side1 ?side2 A21.out).mono ?_); (case side1 => exact Kd.C_below HR0.out bel_); (case side2 => exact HC0.out); rintro e w29 ⟨rfl, hb⟩; refine ⟨_, rfl, ?_⟩; replace HO_52 := Aside0.mk (Kd.R_below (by (with_reducible repeat (first | apply Kd.R_alloc | apply Kd.R_drewN | apply Kd.R_drew)); exact (Kd.R_mono (Kd.R_far (p := ⟨gb337, 2, none⟩) (Kd.R_far (p := ⟨gb337, 1, none⟩) (Kd.R_far (p := ⟨gb337, 0, none⟩) (Kd.R_mono HO_52.out (fun k_ hk => (⟨hk, hk.2⟩ : _ ∧ k_ ≠ gb337))) (fun _ hk => hk.2) (.string ((rd_T34 t332 x54_1).f0))) (fun _ hk => hk.2) (.int .u32 ((rd_T34 t332 x54_1).f1))) (fun _ hk => hk.2) (.int .u8 ((rd_T34 t332 x54_1).f2))) (fun _ h_ => h_.1))) hb); replace BK331 := Aside0.mk (blk_below (g := gb331) (o := .cells #[.int .u8 t325, .int .u16 t326, .int .u32 t327, .int .u32 t328, .string t329] 37 (0, 0)) (bs_) hb); replace BK337 := Aside0.mk (blk_below (g := gb337) (o := .cells #[.string ((rd_T34 t332 x54_1).f0), .int .u32 ((rd_T34 t332 x54_1).f1), .int .u8 ((rd_T34 t332 x54_1).f2)] 34 (0, 0)) (bs_) hb); replace HB := hb_ hb; (try clear hb); (try clear hb2); (try clear hk); (try clear hi)) | ((with_reducible refine gate_dst (N := 15) rfl ?_); refine bx_ (N := 15) (cs := #[.int .u8 0, .int .u16 0, .int .u32 0, .int .u32 0, .string (⟨#[]⟩ : ByteArray)]) (t := 37) ?_; intro gb344 hg w30 hbox hb; have BK344 := Aside0.mk (hbox); have GW344 := ge_ hg; have GE344 := ge_ hg; have NB331_344 := nl_ BK331 hg; have NB344_331 := ng_ BK331 hg; have NB337_344 := nl_ BK337 hg; have NB344_337 := ng_ BK337 hg; replace HO_52 := rb_ HO_52 hb; replace BK331 := kb_ BK331 hb; replace BK337 := kb_ BK337 hb; replace HB := hb_ hb; clear hb hbox hg; have hnb31 := NB344_331.out; have hnc31 := NB331_344.out; have hnb32 := NB344_337.out; have hnc32 := NB337_344.out; obtain ⟨hcz33_0, hcz33_1, hcz33_2, hcz33_3, hcz33_4⟩ := cl5_ BK344; obtain ⟨hfz33_0, hfz33_1, hfz33_2, hfz33_3, hfz33_4⟩ := fz5_ BK344; obtain ⟨hcz34_0, hcz34_1, hcz34_2⟩ := cl3_ BK337; obtain ⟨hfz34_0, hfz34_1, hfz34_2⟩ := fz3_ BK337))
                    go_roundg k1
                    case measure => have := HK1.out; omega
                    case rel => exact ⟨(wrap64 (x54_1 + 1)), (by first | rfl | (simp; done) | (simp [*]; done)), H', ⟨by have := HK1.out; omega⟩, ⟨by (with_reducible repeat (first | apply Kd.R_alloc | apply Kd.R_drewN | apply Kd.R_drew)); exact Kd.R_mono (Kd.R_far (p := ⟨gb344, 4, none⟩) (Kd.R_far (p := ⟨gb344, 3, none⟩) (Kd.R_far (p := ⟨gb344, 2, none⟩) (Kd.R_far (p := ⟨gb344, 1, none⟩) (Kd.R_far (p := ⟨gb344, 0, none⟩) (Kd.R_types HO_52.out BK344.out (by decide)) (fun _ hk => hk.2) (.int .u8 t338)) (fun _ hk => hk.2) (.int .u16 t339)) (fun _ hk => hk.2) (.int .u32 t340)) (fun _ hk => hk.2) (.int .u32 t341)) (fun _ hk => hk.2) (.string t342)) (fun _ hk => trivial)⟩, ⟨bs_⟩, ⟨bel_⟩⟩
                  rw [if_neg c23] at H
                  have c23b0 : (t338 == ((rd_T34 t332 x54_1).f2)) = false := beq_eq_false_iff_ne.mpr c23
                  have c23b1 : (t338 != ((rd_T34 t332 x54_1).f2)) = true := bne_iff_ne.mpr c23
                  exact absurd ((Option.some.inj H).trans HT_.out) (by simp)
                rw [if_neg c22] at H
                have c22b0 : (t343 == 0) = false := beq_eq_false_iff_ne.mpr c22
                have c22b1 : (t343 != 0) = true := bne_iff_ne.mpr c22
                exact absurd ((Option.some.inj H).trans HT_.out) (by simp)
              rw [if_neg c20] at H
              exact absurd H (by simp)
            rw [if_neg c19] at H
            exact absurd H (by simp)
          rw [if_neg c18] at H
          have c18b0 : decide (x54_1 < (t332.length : Int)) = false := decide_eq_false c18
          clear c18
          replace H := Option.bind_eq_some_iff.mp H
          obtain ⟨⟨t345, t346, t347, t348, t349, t350⟩, A350, H⟩ := H
          replace H : (if t320 = 1 then (if t324 = 0 then (if t323 > 1 then (if t330 = 5 then (if t350 = 0 then (some ((t333 == 0) == (t345 == 1))) else (some ((t333 == 0) == false))) else (some false)) else (some false)) else (some false)) else (some false)) = some r := H
          have A35 := Aside0.mk A350
          clear A350
          by_cases c36 : t320 = 1
          · rw [if_pos c36] at H
            have c36b0 : (t320 == 1) = true := beq_iff_eq.mpr c36
            have c36b1 : (t320 != 1) = false := bne_eq_false_iff_eq.mpr c36
            clear c36
            by_cases c37 : t324 = 0
            · rw [if_pos c37] at H
              have c37b0 : (t324 == 0) = true := beq_iff_eq.mpr c37
              have c37b1 : (t324 != 0) = false := bne_eq_false_iff_eq.mpr c37
              clear c37
              by_cases c38 : t323 > 1
              · rw [if_pos c38] at H
                have c38b0 : decide (1 < t323) = true := decide_eq_true c38
                clear c38
                by_cases c39 : t330 = 5
                · rw [if_pos c39] at H
                  have c39b0 : (t330 == 5) = true := beq_iff_eq.mpr c39
                  have c39b1 : (t330 != 5) = false := bne_eq_false_iff_eq.mpr c39
                  clear c39
                  by_cases c40 : t350 = 0
                  · rw [if_pos c40] at H
                    have c40b0 : (t350 == 0) = true := beq_iff_eq.mpr c40
                    have c40b1 : (t350 != 0) = false := bne_eq_false_iff_eq.mpr c40
                    clear c40
                    obtain rfl := Option.some.inj H
                    go_wp2_with (first | ((with_reducible refine gate_callee (f := 10) rfl ?_); refine gl_ (some 89) Try.func10 #[.slice A0 l0.length c0, .int .u32 a1] ?_; (with_reducible refine (dirs_Get.calls k1 _ _ l0 a1 t345 t346 t347 t348 t349 t350 _ ?side1 ?side2 A35.out).mono ?_); (case side1 => exact cb_ HR0); (case side2 => exact HC0.out); rintro e w41 ⟨rfl, hb⟩; refine ⟨_, rfl, ?_⟩; replace HO_52 := rb_ HO_52 hb; replace BK331 := kb_ BK331 hb; replace HB := hb_ hb; (try clear hb); (try clear hb2); (try clear hk); (try clear hi)) | ((with_reducible refine gate_dst (N := 17) rfl ?_); refine bx_ (N := 17) (cs := #[.int .u8 0, .int .u16 0, .int .u32 0, .int .u32 0, .string (⟨#[]⟩ : ByteArray)]) (t := 37) ?_; intro gb351 hg w42 hbox hb; have BK351 := Aside0.mk (hbox); have GW351 := ge_ hg; have GE351 := ge_ hg; have NB331_351 := nl_ BK331 hg; have NB351_331 := ng_ BK331 hg; replace HO_52 := rb_ HO_52 hb; replace BK331 := kb_ BK331 hb; replace HB := hb_ hb; clear hb hbox hg; have hnb43 := NB351_331.out; have hnc43 := NB331_351.out; obtain ⟨hcz44_0, hcz44_1, hcz44_2, hcz44_3, hcz44_4⟩ := cl5_ BK351; obtain ⟨hfz44_0, hfz44_1, hfz44_2, hfz44_3, hfz44_4⟩ := fz5_ BK351))
                    go_ret
                    exact ⟨by first | rfl | (simp [errW_none, errW_some] <;> rfl) | (simp [*, errW_none, errW_some] <;> rfl), bel_⟩
                  rw [if_neg c40] at H
                  have c40b0 : (t350 == 0) = false := beq_eq_false_iff_ne.mpr c40
                  have c40b1 : (t350 != 0) = true := bne_iff_ne.mpr c40
                  obtain rfl := Option.some.inj H
                  go_wp2_with (first | ((with_reducible refine gate_callee (f := 10) rfl ?_); refine gl_ (some 89) Try.func10 #[.slice A0 l0.length c0, .int .u32 a1] ?_; (with_reducible refine (dirs_Get.calls k1 _ _ l0 a1 t345 t346 t347 t348 t349 t350 _ ?side1 ?side2 A35.out).mono ?_); (case side1 => exact cb_ HR0); (case side2 => exact HC0.out); rintro e w45 ⟨rfl, hb⟩; refine ⟨_, rfl, ?_⟩; replace HO_52 := rb_ HO_52 hb; replace BK331 := kb_ BK331 hb; replace HB := hb_ hb; (try clear hb); (try clear hb2); (try clear hk); (try clear hi)) | ((with_reducible refine gate_dst (N := 17) rfl ?_); refine bx_ (N := 17) (cs := #[.int .u8 0, .int .u16 0, .int .u32 0, .int .u32 0, .string (⟨#[]⟩ : ByteArray)]) (t := 37) ?_; intro gb351 hg w46 hbox hb; have BK351 := Aside0.mk (hbox); have GW351 := ge_ hg; have GE351 := ge_ hg; have NB331_351 := nl_ BK331 hg; have NB351_331 := ng_ BK331 hg; replace HO_52 := rb_ HO_52 hb; replace BK331 := kb_ BK331 hb; replace HB := hb_ hb; clear hb hbox hg; have hnb47 := NB351_331.out; have hnc47 := NB331_351.out; obtain ⟨hcz48_0, hcz48_1, hcz48_2, hcz48_3, hcz48_4⟩ := cl5_ BK351; obtain ⟨hfz48_0, hfz48_1, hfz48_2, hfz48_3, hfz48_4⟩ := fz5_ BK351))
                  go_ret
                  exact ⟨by first | rfl | (simp [errW_none, errW_some] <;> rfl) | (simp [*, errW_none, errW_some] <;> rfl), bel_⟩
                rw [if_neg c39] at H
                have c39b0 : (t330 == 5) = false := beq_eq_false_iff_ne.mpr c39
                have c39b1 : (t330 != 5) = true := bne_iff_ne.mpr c39
                exact absurd ((Option.some.inj H).trans HT_.out) (by simp)
              rw [if_neg c38] at H
              have c38b0 : decide (1 < t323) = false := decide_eq_false c38
              clear c38
              exact absurd ((Option.some.inj H).trans HT_.out) (by simp)
            rw [if_neg c37] at H
            have c37b0 : (t324 == 0) = false := beq_eq_false_iff_ne.mpr c37
            have c37b1 : (t324 != 0) = true := bne_iff_ne.mpr c37
            exact absurd ((Option.some.inj H).trans HT_.out) (by simp)
          rw [if_neg c36] at H
          have c36b0 : (t320 == 1) = false := beq_eq_false_iff_ne.mpr c36
          have c36b1 : (t320 != 1) = true := bne_iff_ne.mpr c36
          exact absurd ((Option.some.inj H).trans HT_.out) (by simp)
    rw [if_neg c6] at H
    have c6b0 : (t321 == 0) = false := beq_eq_false_iff_ne.mpr c6
    have c6b1 : (t321 != 0) = true := bne_iff_ne.mpr c6
    by_cases c49 : t321 = 9
    · rw [if_pos c49] at H
      have c49b0 : (t321 == 9) = true := beq_iff_eq.mpr c49
      have c49b1 : (t321 != 9) = false := bne_eq_false_iff_eq.mpr c49
      clear c49
      replace H := Option.bind_eq_some_iff.mp H
      obtain ⟨t322, A500, H⟩ := H
      replace H : (some (t322 == 9)) = some r := H
      have A50 := Aside0.mk A500
      clear A500
      obtain rfl := Option.some.inj H
      go_enter Try.func5, Try.ntmps5
      go_wp2_with (first | ((with_reducible refine gate_callee (f := 7) rfl ?_); refine gl_ (some 19) Try.func7 #[] ?_; (with_reducible refine (cambiumlaw14_lives.calls k  true _ A3.out).mono ?_); rintro e w51 ⟨rfl, hb⟩; refine ⟨_, rfl, ?_⟩; replace HB := hb_ hb; (try clear hb); (try clear hb2); (try clear hk); (try clear hi)) | ((with_reducible refine gate_callee (f := 8) rfl ?_); refine gl_ (some 23) Try.func8 #[.slice A0 l0.length c0, .slice none 0 0, .bool false] ?_; (refine (dirs_Walk.calls k _ _ l0 _ _ ([] : List ByteArray) false t320 t321 _ ?side1 ?side2 ?side3 ?side4 A5.out).mono ?_); (case side1 => exact cb_ HR0); (case side2 => exact HC0.out); (case side3 => exact Kd.C_nil _ _); (case side4 => exact Nat.le_refl _); rintro e w52 ⟨rfl, hb⟩; refine ⟨_, rfl, ?_⟩; replace HB := hb_ hb; (try clear hb); (try clear hb2); (try clear hk); (try clear hi)) | (go_at_call 11; (with_reducible refine (dirs_Check.calls k _ _ l0 t322 _ ?side1 ?side2 A50.out).mono ?_); (case side1 => exact cb_ HR0); (case side2 => exact HC0.out); rintro e w53 ⟨rfl, hb⟩; replace HB := hb_ hb; (try clear hb); (try clear hb2); (try clear hk); (try clear hi)))
      go_ret
      exact ⟨by first | rfl | (simp [errW_none, errW_some] <;> rfl) | (simp [*, errW_none, errW_some] <;> rfl), bel_⟩
    rw [if_neg c49] at H
    have c49b0 : (t321 == 9) = false := beq_eq_false_iff_ne.mpr c49
    have c49b1 : (t321 != 9) = true := bne_iff_ne.mpr c49
    exact absurd ((Option.some.inj H).trans HT_.out) (by simp)
  replace c4 := Bool.eq_false_iff.mpr c4
  subst c4
  have H1 : (some false) = some r := by rw [if_neg (show ¬ (false = true) by decide)] at H; exact H
  clear H
  have H := H1
  clear H1
  exact absurd ((Option.some.inj H).trans HT_.out) (by simp)

end Go.Proofs.Ytpnmajblhgnkoaa.Z
end

section
/- DirsRoot, over lists: the law's function answers true. -/
namespace Go.Proofs.Ytpnmajblhgnkoaa.Pure
open Go.RowKit Go.Proofs.Ytpnmajblhgnkoaa Go.Proofs.Ytpnmajblhgnkoaa.Z Go.Proofs.YtpnmajblhgnkoaaW.PrintWords Go.Proofs.Ytpnmajblhgnkoaa.PM
set_option linter.unusedVariables false
set_option linter.unusedSimpArgs false
theorem root_l0 {l : List It} {s : VS} (hf : Fit l) (hl : l.length ≤ 4398046511103) (hs : lookS l = some s) (a n : Int) (hn : 2 ≤ n) (hfree : (s.ino n).isSome = false) (g : Int × Int × Int × Int × ByteArray × Int) (hget : Ev (fun k => dirs_Get.f k l a) g) (w3 : Int)
    (hg : (g.2.2.2.2.2 = 0 → ((w3 == 0) == (g.1 == 1)) = true) ∧ (¬ g.2.2.2.2.2 = 0 → ((w3 == 0) == false) = true)) (L : List S34) (hlen : L.length ≤ 4398046511103)
    (hstep : ∀ (i : Nat) (h : i < L.length), (L[i].f1 ≠ 1 ∧ L[i].f1 ≠ n) ∧ ∃ q, Ev (fun k => dirs_Get.f k l L[i].f1) q ∧ q.2.2.2.2.2 = 0 ∧ q.1 = L[i].f2) : ∀ d i : Nat, L.length = i + d →
    Ev (fun k => cambiumlaw14_DirsRoot.l0 k l a 1 n 0 5 w3 L (L.length : Int) (i : Int)) true := by
  intro d
  induction d with
  | zero =>
    intro i hi
    refine Ev.step (fun k => by rw [cambiumlaw14_DirsRoot.l0]) ?_
    refine Ev.ifn (by clear hg hget hfree hstep; omega) ?_
    refine Ev.bind hget ?_
    refine Ev.ifp rfl (Ev.ifp rfl (Ev.ifp (by clear hg hget hfree hstep; omega) (Ev.ifp rfl ?_)))
    exact Ev.ite (fun h => Ev.const (congrArg some (hg.1 h))) (fun h => Ev.const (congrArg some (hg.2 h)))
  | succ d ih =>
    intro i hi
    have hlt : i < L.length := by rw [hi]; exact Nat.lt_add_of_pos_right (Nat.succ_pos d)
    have hn2 : (i : Int) < 4398046511103 := Int.ofNat_lt.2 (Nat.lt_of_lt_of_le hlt hlen)
    have hn0 : (0 : Int) ≤ (i : Int) := Int.natCast_nonneg i
    have hnext : wrap64 ((i : Int) + 1) = ((i + 1 : Nat) : Int) := by
      clear hg hget hfree hstep ih
      rw [w64 (by omega) (by omega)]; omega
    have ihh := ih (i + 1) (by rw [hi]; exact (Nat.succ_add_eq_add_succ i d).symm)
    obtain ⟨⟨hne1, hnen⟩, q, hq, hq0, hqk⟩ := hstep i hlt
    refine Ev.step (fun k => by rw [cambiumlaw14_DirsRoot.l0]) ?_
    rw [rd_ent L i hlt, hnext]
    refine Ev.ifp (Int.ofNat_lt.2 hlt) (Ev.ifp hn0 (Ev.ifp (Int.ofNat_lt.2 hlt) ?_))
    refine Ev.bind hq ?_
    exact Ev.ifp hq0 (Ev.ifp hqk (Ev.ifn hne1 (Ev.ifn hnen ihh)))
theorem bulk_len (l : List It) : l.length ≤ (l.map Z.B61).sum := by
  induction l with
  | nil => simp
  | cons x r ih => simp only [List.map_cons, List.sum_cons, List.length_cons, Z.B61]; omega
theorem DirsRoot : ∀ (l0 : List (S61)) (a1 : Int), l0.length ≤ maxLen → (∀ x ∈ l0, Z.G61 x) → (Lit.int .u32 a1).wf = true → ((l0.map Z.B61).sum + 1) + 1 ≤ 1048576 → ∃ k, Z.cambiumlaw14_DirsRoot.f k l0 a1 = some true := by
  intro l a _ hf hw hb
  have hf : Fit l := hf
  have ha := wf32 hw
  have hl := bulk_len l
  refine Ev.rounds ?_
  unfold cambiumlaw14_DirsRoot.f
  refine Ev.bind lives_f (Ev.ifp rfl ?_)
  refine Ev.bind (Walk_f hf (by omega) [] (by decide) false) ?_
  unfold walkR
  have hchk := Check_f hf (by omega : l.length ≤ 4398046511103)
  cases hs : lookS l with
  | none =>
    rw [hs] at hchk
    refine Ev.ifn (show ¬ (9 : Int) = 0 by decide) (Ev.ifp rfl ?_)
    exact Ev.bind hchk (Ev.const rfl)
  | some s =>
    have hr := look_rt hs
    refine Ev.ifp rfl ?_
    obtain ⟨j, hj, hjn⟩ := pigeon l.length (l.map (fun x => (keptS x).f1 - 2)) (by rw [List.length_map]; exact Nat.le_refl _)
    have hfree : (s.ino (2 + (j : Int))).isSome = false := by
      cases hm : s.ino (2 + (j : Int)) with
      | none => rfl
      | some m =>
        obtain ⟨x, hx, _, he, _⟩ := hr.inv.src _ m hm
        exact absurd (List.mem_map.2 ⟨x, hx, by rw [he]; omega⟩) hjn
    obtain ⟨n, hn, h1, h2, h3, _⟩ := nextL_f s.ino j 2 (by decide) (by omega) hfree
    have hnx : Ev (fun k => dirs_Next.f k l) (n, 0) := by
      unfold dirs_Next.f
      refine Ev.bind (look_f l hf (by omega)) ?_
      rw [hs]
      exact Ev.bind hn (Ev.const rfl)
    refine Ev.bind hnx ?_
    have hnn : s.ino n = none := by
      cases hm : s.ino n with
      | none => rfl
      | some m => rw [hm] at h3; cases h3
    have hgn : Ev (fun k => dirs_Get.f k l n) (0, 0, 0, 0, ⟨#[]⟩, 5) := by
      have e : getR (some s) n = (0, 0, 0, 0, ⟨#[]⟩, 5) := by unfold getR; simp only [hnn]
      rw [← e, ← hs]
      exact Get_f hf (by clear h3 hnn hnx hn hfree hjn hchk; omega) ⟨by clear h3 hnn hnx hn hfree hjn hchk; omega, by clear h3 hnn hnx hn hfree hjn hchk; omega⟩
    refine Ev.bind hgn ?_
    have hle : l.length ≤ 4398046511103 := by clear h3 hnn hnx hn hfree hjn hchk hgn; omega
    refine Ev.bind (List_f hf hle ha) ?_
    have hga := Get_f hf hle ha
    rw [hs] at hga ⊢
    have hlen : (listS s a).length ≤ 4398046511103 := by
      unfold listS
      rw [List.length_map]
      refine Nat.le_trans (List.length_filter_le ..) ?_
      rw [hr.inv.all, List.length_map]; exact hle
    have fin : ∀ (L : List S34) (w3 : Int) (g : Int × Int × Int × Int × ByteArray × Int), Ev (fun k => dirs_Get.f k l a) g → L.length ≤ 4398046511103 → (∀ e ∈ L, e ∈ listS s a) →
        ((g.2.2.2.2.2 = 0 → ((w3 == 0) == (g.1 == 1)) = true) ∧ (¬ g.2.2.2.2.2 = 0 → ((w3 == 0) == false) = true)) →
        Ev (fun k => cambiumlaw14_DirsRoot.l0 k l a 1 n 0 5 w3 L (L.length : Int) 0) true := fun L w3 g q0 q1 q2 q3 =>
      root_l0 hf hle hs a n h1 h3 g q0 w3 q3 L q1 (fun i h => by
        have hE := list_mem hr (q2 L[i] (List.getElem_mem h))
        refine ⟨⟨fun h1 => ?_, fun h1 => ?_⟩, _, get_f hf hle hs hE.2.2.1, rfl, hE.2.2.2.symm⟩
        · have hen := entryS_ne1 l a L[i].f0
          rw [hE.1] at hen
          exact hen h1
        · have := hE.2.2.1
          rw [h1, h3] at this
          cases this) L.length 0 (Nat.zero_add _).symm
    cases hm : s.ino a with
    | none =>
      have e : listR (some s) a = ([], 5) := by unfold listR; simp only [hm]
      have e2 : getR (some s) a = (0, 0, 0, 0, ⟨#[]⟩, 5) := by unfold getR; simp only [hm]
      rw [e]; rw [e2] at hga
      exact fin [] 5 _ hga (by decide) (fun e he => by cases he) ⟨fun h => absurd h (show ¬ (5 : Int) = 0 by decide), fun _ => rfl⟩
    | some m =>
      have e2 : getR (some s) a = (m.kd, m.md, m.ln, m.sz, m.tg, 0) := by unfold getR; simp only [hm]
      rw [e2] at hga
      by_cases hk : m.kd = 1
      · have e : listR (some s) a = (listS s a, 0) := by unfold listR; simp only [hm]; rw [if_pos hk]
        rw [e]
        exact fin (listS s a) 0 _ hga hlen (fun e he => he) ⟨fun _ => (by show (true == (m.kd == 1)) = true; rw [hk]; rfl), fun h => absurd rfl h⟩
      · have e : listR (some s) a = ([], 12) := by unfold listR; simp only [hm]; rw [if_neg hk]
        rw [e]
        exact fin [] 12 _ hga (by decide) (fun e he => by cases he) ⟨fun _ => (by show (false == (m.kd == 1)) = true; rw [beq_eq_false_iff_ne.2 hk]; rfl), fun h => absurd rfl h⟩
end Go.Proofs.Ytpnmajblhgnkoaa.Pure
end

section
/- cambium/cambiumlaw14.DirsRoot: at every input the law's function returns true, and each argument reads afterwards as before. Conditions: none beyond the row's own, and that the arguments are of bulk at most 1048576. Printed by a program of this session (mp.py) over the pure statement in YtpnmajblhgnkoaaPureDirsRoot. -/
namespace Go.Proofs.Ytpnmajblhgnkoaa.dirsRoot
open Go.ChangeShapes Go.WideShapes Go.ChangeAt Go.RowKit
open Go.ChangeMaps (open_string shut_string)
set_option linter.unusedVariables false
set_option linter.unusedSimpArgs false
theorem own : ownKnob Try.prog.godebug = none := by kernel_rfl
theorem laidOut : laidOutB Try.prog = true := by kernel_rfl
set_option maxHeartbeats 1000000 in
set_option maxRecDepth 100000 in
theorem lifted (os : Os) (started : os.Started) (H : Type) (enc : TypeId × Value → H) (F : Stop.Interp) :
    ReturnsInHanded {} Try.checked os 5 .any ((Rows.OpenSpec.upto Rows.dirsRootSpec).pre6 enc Try.prog Try.f5 Rows.dirsRootUptoRow.domain false) (((Rows.OpenSpec.upto Rows.dirsRootSpec).at F).post enc Try.prog Try.f5 false true false false) := by
  refine returnsInHanded_of_cond_sized (C := Try.checked) (s := Rows.OpenSpec.upto Rows.dirsRootSpec) (k := Rows.uptoSmall) rfl own started (by kernel_rfl) Try.func5
    (OpenSpec.witness (enc := enc) (C := Try.checked) (s := Rows.OpenSpec.upto Rows.dirsRootSpec) (k := Rows.uptoSmall) rfl false ⟨#[], #[.slice none 0 0, .int .u32 0], []⟩ 8 (by kernel_rfl) (by kernel_rfl) (by kernel_rfl)
      (x := ([.nil, .lit (.int .u32 0)], [], [])) (by kernel_rfl) rfl (by kernel_rfl)) ?_
  intro W base args ds gs before hval0 hW hcnd hk0 hwz_ _
  have hsz : (DataW.weightsEach Try.prog (Try.f5.params.toList ++ Rows.dirsRootSpec.plain.varTypes Try.prog) (ds ++ gs)).all (· ≤ reachBytes) = true := hwz_
  have hval : ∀ (j : Nat) t v, Try.f5.params[j]? = some t → args[j]? = some v → Value.okWide Try.prog W .any base t v := hval0
  have hW' := hW
  obtain ⟨p, q, hA0, hV, rfl, hfz, hnd⟩ := hW
  have hA : DataW.TrodAll enc Try.prog W 0 (fun _ => true) true Try.f5.params.toList args.toList ds p := hA0
  rw [Try.params5] at hA hval hsz
  obtain ⟨v0, vs0, d0, ds0, p0, q0, hargs, rfl, rfl, h0, r0⟩ := trodAll_cons hA
  obtain ⟨v1, vs1, d1, ds1, p1, q1, rfl, rfl, rfl, h1, r1⟩ := trodAll_cons r0
  obtain ⟨rfl, rfl, rfl⟩ := trodAll_nil r1
  obtain rfl : args = #[v0, v1] := by cases args; simp_all
  obtain ⟨rfl, rfl⟩ := trodVars_none hV
  have k0 := h0
  have lt0 : ∀ x ∈ p0, x.block < W.heap.size := by obtain ⟨m, hm⟩ := k0; exact DataW.trod_lt m _ _ _ hm
  obtain ⟨a0, len0, cap0, rfl⟩ := okWide_slice Try.underlying22 (hval 0 22 v0 rfl rfl)
  obtain ⟨fuel0, hf0⟩ := h0
  obtain ⟨A0, c0, l0, hcs0, hlc0, hcm0, hC0, hG0, hB0, hx0⟩ := Z.Opens.row Try.underlying22 Z.opens61 (of_decide_eq_true (by kernel_rfl)) hf0
  simp only [Value.cells, List.cons.injEq, Value.slice.injEq, and_true] at hcs0
  obtain ⟨rfl, rfl, rfl⟩ := hcs0
  have hlm0 : l0.length ≤ maxLen := Nat.le_trans hlc0 hcm0
  have k1 := h1
  have lt1 : ∀ x ∈ p1, x.block < W.heap.size := by obtain ⟨m, hm⟩ := k1; exact DataW.trod_lt m _ _ _ hm
  obtain ⟨a1, rfl, rfl, rfl, w1⟩ := open_int Try.underlying25 (hval 1 25 v1 rfl rfl) h1
  have hbk : ((l0.map Z.B61).sum + 1) + 1 ≤ 1048576 := by
    have hb_ := of_decide_eq_true hk0
    simp only [Rows.uptoBulkAll, Rows.uptoBulk, List.append_nil, Array.length_toList, List.map_cons, List.map_nil] at hb_
    (try simp only [show ∀ s : ByteArray, s.data.size = s.size from fun _ => rfl] at hb_)
    (try dsimp only at hB0)
    omega
  have hP := Pure.DirsRoot l0 a1 hlm0 hG0 w1 hbk
  obtain ⟨k, hk⟩ := hP
  refine (Z.cambiumlaw14_DirsRoot.calls k _ _ l0 a1 true W hC0 hlc0 hk).mono fun e W' ⟨he, bel0⟩ => ?_
  have bel : Below W.heap.size W W' := bel0
  subst he
  exact ⟨_, rfl, _, _, _, [], _, [], hW', trodAll_mk1 (shut_bool Try.underlying4 _), (trodAll_cons_mk (Below.trod laidOut (by kernel_rfl) (of_decide_eq_true (by kernel_rfl)) k0 bel lt0) (trodAll_cons_mk (Below.trod laidOut (by kernel_rfl) (of_decide_eq_true (by kernel_rfl)) k1 bel lt1) trodAll_mk0)), rfl, bel.frame _, fun h => by cases h⟩
theorem over : Rows.dirsRootUptoRow.holds Try.pinned (Rows.OpenSpec.upto Rows.dirsRootSpec) :=
  OpenClaim.holds_of_cond 5 Try.f5 rfl rfl rfl rfl rfl rfl rfl ⟨rfl, rfl, rfl, rfl, rfl⟩ rfl rfl rfl rfl rfl (by kernel_rfl) Try.func5 (by kernel_rfl)
    (of_decide_eq_true (by kernel_rfl)) (by unfold Func.isWrapper; first | (rw [if_pos (by decide +kernel)]; kernel_rfl) | (rw [if_neg (by decide +kernel)]; exact ⟨rfl, rfl⟩))
    (fun os started H enc _ F => lifted os started H enc F)
end Go.Proofs.Ytpnmajblhgnkoaa.dirsRoot
namespace Go.Proofs.Ytpnmajblhgnkoaa
theorem dirsRoot_holds : Rows.DirsRootUptoSaid := dirsRoot.over
#print axioms dirsRoot_holds
end Go.Proofs.Ytpnmajblhgnkoaa
end
