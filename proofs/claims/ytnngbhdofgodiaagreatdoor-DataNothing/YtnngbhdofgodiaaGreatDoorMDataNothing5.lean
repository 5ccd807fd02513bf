/- DataNothing: at every input the law's function returns true and leaves its arguments as they were; no condition beyond the row's own. Part 5 of 5: this session's own texts, laid together. -/
import Derived.Test.YtnngbhdofgodiaaGreatDoorMB1
import Derived.Test.YtnngbhdofgodiaaGreatDoorMB2
import Derived.Test.YtnngbhdofgodiaaGreatDoorMB4
import Derived.Test.YtnngbhdofgodiaaGreatDoorMB3
import Derived.Test.YtnngbhdofgodiaaGreatDoorCards
import Derived.Test.YtnngbhdofgodiaaGreatDoorTie
import Derived.Deep.DeepHandedRow
import Derived.WalkKit
import Derived.ProofKit
import Derived.OpenShut
import Derived.ShutString
import Derived.ChangeOld
import Derived.Below
import Derived.SizedLaws
import Derived.Carry
section
-- Printed by a program of this session (mp.py) out of the translation.
namespace Go.Proofs.YtnngbhdofgodiaaGreatDoor.Z
open Go.RowKit Go.Proofs.YtnngbhdofgodiaaGreatDoorW.PrintWords Go.Proofs.YtnngbhdofgodiaaGreatDoorW.PrintLast Go.Proofs.YtnngbhdofgodiaaGreatDoorW.PrintMore
attribute [local go_sem] max2_int min2_int max_two min_two max_three min_three max_four min_four   -- for this text's walks alone
set_option linter.unusedVariables false
set_option linter.unusedSimpArgs false

/-! ### cambiumlaw13_DataNothing: function 7 -/
def cambiumlaw13_DataNothing.f (k : Nat) (l0 : List (S54)) (a1 : Int) (a2 : Int) : Option (Bool) := (cambiumlaw13_lives.f k).bind fun t341 => (if t341 = true then ((data_Cut.f k l0 a1 0).bind fun bt342 => (if bt342.2 = 0 then ((item_Apply.f k l0 bt342.1).bind fun bt346 => ((data_Cut.f k bt346.1 a1 65536).bind fun bt350 => ((data_Read.f k bt346.1 a1 300 0 300).bind fun bt354 => ((data_Read.f k l0 a2 300 0 300).bind fun bt356 => ((data_Read.f k bt346.1 a2 300 0 300).bind fun bt358 => (if bt346.2 = 0 then (if bt350.2 = 0 then (if (bt350.1.length : Int) = 0 then (if bt354.2 = 0 then (if bt354.1.toList = (strOfNums (List.replicate 300 0)).toList then (if bt356.2 = bt358.2 then (if a2 = a1 then (some true) else (some (bt356.1.toList == bt358.1.toList))) else (some false)) else (some false)) else (some false)) else (some false)) else (some false)) else (some false))))))) else (some true))) else (some false))
theorem cambiumlaw13_DataNothing.mono : ∀ a0 a1 a2 k, LeO (cambiumlaw13_DataNothing.f k a0 a1 a2) (cambiumlaw13_DataNothing.f (k + 1) a0 a1 a2) := by
  intro a0 a1 a2 k
  unfold cambiumlaw13_DataNothing.f
  repeat' first
      | (with_reducible exact cambiumlaw13_lives.mono _)
      | (with_reducible exact data_Cut.mono _ _ _ _)
      | (with_reducible exact data_Read.mono _ _ _ _ _ _)
      | (with_reducible exact item_Apply.mono _ _ _)
      | (with_reducible exact LeO.refl _)
      | (with_reducible exact LeO.none _)
      | (with_reducible refine LeO.ite ?_ ?_)
      | (with_reducible refine LeO.bind ?_ (fun _ => ?_))
      | exact cambiumlaw13_lives.mono _
      | exact data_Cut.mono _ _ _ _
      | exact data_Read.mono _ _ _ _ _ _
      | exact item_Apply.mono _ _ _
      | exact LeO.none _
      | refine LeO.ite ?_ ?_
      | refine LeO.bind ?_ (fun _ => ?_)
set_option maxHeartbeats 8000000 in
set_option maxRecDepth 100000 in
theorem cambiumlaw13_DataNothing.calls (k : Nat) (A0 : Option Addr) (c0 : Nat) (l0 : List (S54)) (a1 : Int) (a2 : Int) (r : Bool) (w : World) (hr0 : Kd.C k54 w A0 l0.length l0) (hc0 : l0.length ≤ c0) (h : cambiumlaw13_DataNothing.f k l0 a1 a2 = some r) (hT_ : r = true := by rfl) :
    Calls Tryz.prog 7 #[.slice A0 l0.length c0, .int .u32 a1, .int .u32 a2] w fun e w' => e = .returned (.bool r) ∧ Below w.heap.size w w' := by
  have HT_ := Aside0.mk hT_
  clear hT_
  have HR0 := Aside0.mk hr0
  have HC0 := Aside0.mk hc0
  clear hr0 hc0
  have HB := Aside0.mk (Below.refl w.heap.size w)
  have H : ((cambiumlaw13_lives.f k).bind fun t341 => (if t341 = true then ((data_Cut.f k l0 a1 0).bind fun bt342 => (if bt342.2 = 0 then ((item_Apply.f k l0 bt342.1).bind fun bt346 => ((data_Cut.f k bt346.1 a1 65536).bind fun bt350 => ((data_Read.f k bt346.1 a1 300 0 300).bind fun bt354 => ((data_Read.f k l0 a2 300 0 300).bind fun bt356 => ((data_Read.f k bt346.1 a2 300 0 300).bind fun bt358 => (if bt346.2 = 0 then (if bt350.2 = 0 then (if (bt350.1.length : Int) = 0 then (if bt354.2 = 0 then (if bt354.1.toList = (strOfNums (List.replicate 300 0)).toList then (if bt356.2 = bt358.2 then (if a2 = a1 then (some true) else (some (bt356.1.toList == bt358.1.toList))) else (some false)) else (some false)) else (some false)) else (some false)) else (some false)) else (some false))))))) else (some true))) else (some false))) = some r := h
  clear h
  replace H := Option.bind_eq_some_iff.mp H
  obtain ⟨t341, A40, H⟩ := H
  replace H : (if t341 = true then ((data_Cut.f k l0 a1 0).bind fun bt342 => (if bt342.2 = 0 then ((item_Apply.f k l0 bt342.1).bind fun bt346 => ((data_Cut.f k bt346.1 a1 65536).bind fun bt350 => ((data_Read.f k bt346.1 a1 300 0 300).bind fun bt354 => ((data_Read.f k l0 a2 300 0 300).bind fun bt356 => ((data_Read.f k bt346.1 a2 300 0 300).bind fun bt358 => (if bt346.2 = 0 then (if bt350.2 = 0 then (if (bt350.1.length : Int) = 0 then (if bt354.2 = 0 then (if bt354.1.toList = (strOfNums (List.replicate 300 0)).toList then (if bt356.2 = bt358.2 then (if a2 = a1 then (some true) else (some (bt356.1.toList == bt358.1.toList))) else (some false)) else (some false)) else (some false)) else (some false)) else (some false)) else (some false))))))) else (some true))) else (some false)) = some r := H
  have A4 := Aside0.mk A40
  clear A40
  by_cases c5 : t341 = true
  · subst c5
    have H1 : ((data_Cut.f k l0 a1 0).bind fun bt342 => (if bt342.2 = 0 then ((item_Apply.f k l0 bt342.1).bind fun bt346 => ((data_Cut.f k bt346.1 a1 65536).bind fun bt350 => ((data_Read.f k bt346.1 a1 300 0 300).bind fun bt354 => ((data_Read.f k l0 a2 300 0 300).bind fun bt356 => ((data_Read.f k bt346.1 a2 300 0 300).bind fun bt358 => (if bt346.2 = 0 then (if bt350.2 = 0 then (if (bt350.1.length : Int) = 0 then (if bt354.2 = 0 then (if bt354.1.toList = (strOfNums (List.replicate 300 0)).toList then (if bt356.2 = bt358.2 then (if a2 = a1 then (some true) else (some (bt356.1.toList == bt358.1.toList))) else (some false)) else (some false)) else (some false)) else (some false)) else (some false)) else (some false))))))) else (some true))) = some r := by rw [if_pos rfl] at H; exact H
    clear H
    have H := H1
    clear H1
    replace H := Option.bind_eq_some_iff.mp H
    obtain ⟨⟨t342, t343⟩, A60, H⟩ := H
    replace H : (if t343 = 0 then ((item_Apply.f k l0 t342).bind fun bt346 => ((data_Cut.f k bt346.1 a1 65536).bind fun bt350 => ((data_Read.f k bt346.1 a1 300 0 300).bind fun bt354 => ((data_Read.f k l0 a2 300 0 300).bind fun bt356 => ((data_Read.f k bt346.1 a2 300 0 300).bind fun bt358 => (if bt346.2 = 0 then (if bt350.2 = 0 then (if (bt350.1.length : Int) = 0 then (if bt354.2 = 0 then (if bt354.1.toList = (strOfNums (List.replicate 300 0)).toList then (if bt356.2 = bt358.2 then (if a2 = a1 then (some true) else (some (bt356.1.toList == bt358.1.toList))) else (some false)) else (some false)) else (some false)) else (some false)) else (some false)) else (some false))))))) else (some true)) = some r := H
    have A6 := Aside0.mk A60
    clear A60
    by_cases c7 : t343 = 0
    · rw [if_pos c7] at H
      have c7b0 : (t343 == 0) = true := beq_iff_eq.mpr c7
      have c7b1 : (t343 != 0) = false := bne_eq_false_iff_eq.mpr c7
      clear c7
      replace H := Option.bind_eq_some_iff.mp H
      obtain ⟨⟨t346, t347⟩, A80, H⟩ := H
      replace H : ((data_Cut.f k t346 a1 65536).bind fun bt350 => ((data_Read.f k t346 a1 300 0 300).bind fun bt354 => ((data_Read.f k l0 a2 300 0 300).bind fun bt356 => ((data_Read.f k t346 a2 300 0 300).bind fun bt358 => (if t347 = 0 then (if bt350.2 = 0 then (if (bt350.1.length : Int) = 0 then (if bt354.2 = 0 then (if bt354.1.toList = (strOfNums (List.replicate 300 0)).toList then (if bt356.2 = bt358.2 then (if a2 = a1 then (some true) else (some (bt356.1.toList == bt358.1.toList))) else (some false)) else (some false)) else (some false)) else (some false)) else (some false)) else (some false)))))) = some r := H
      have A8 := Aside0.mk A80
      clear A80
      replace H := Option.bind_eq_some_iff.mp H
      obtain ⟨⟨t350, t351⟩, A90, H⟩ := H
      replace H : ((data_Read.f k t346 a1 300 0 300).bind fun bt354 => ((data_Read.f k l0 a2 300 0 300).bind fun bt356 => ((data_Read.f k t346 a2 300 0 300).bind fun bt358 => (if t347 = 0 then (if t351 = 0 then (if (t350.length : Int) = 0 then (if bt354.2 = 0 then (if bt354.1.toList = (strOfNums (List.replicate 300 0)).toList then (if bt356.2 = bt358.2 then (if a2 = a1 then (some true) else (some (bt356.1.toList == bt358.1.toList))) else (some false)) else (some false)) else (some false)) else (some false)) else (some false)) else (some false))))) = some r := H
      have A9 := Aside0.mk A90
      clear A90
      replace H := Option.bind_eq_some_iff.mp H
      obtain ⟨⟨t354, t355⟩, A100, H⟩ := H
      replace H : ((data_Read.f k l0 a2 300 0 300).bind fun bt356 => ((data_Read.f k t346 a2 300 0 300).bind fun bt358 => (if t347 = 0 then (if t351 = 0 then (if (t350.length : Int) = 0 then (if t355 = 0 then (if t354.toList = (strOfNums (List.replicate 300 0)).toList then (if bt356.2 = bt358.2 then (if a2 = a1 then (some true) else (some (bt356.1.toList == bt358.1.toList))) else (some false)) else (some false)) else (some false)) else (some false)) else (some false)) else (some false)))) = some r := H
      have A10 := Aside0.mk A100
      clear A100
      replace H := Option.bind_eq_some_iff.mp H
      obtain ⟨⟨t356, t357⟩, A110, H⟩ := H
      replace H : ((data_Read.f k t346 a2 300 0 300).bind fun bt358 => (if t347 = 0 then (if t351 = 0 then (if (t350.length : Int) = 0 then (if t355 = 0 then (if t354.toList = (strOfNums (List.replicate 300 0)).toList then (if t357 = bt358.2 then (if a2 = a1 then (some true) else (some (t356.toList == bt358.1.toList))) else (some false)) else (some false)) else (some false)) else (some false)) else (some false)) else (some false))) = some r := H
      have A11 := Aside0.mk A110
      clear A110
      replace H := Option.bind_eq_some_iff.mp H
      obtain ⟨⟨t358, t359⟩, A120, H⟩ := H
      replace H : (if t347 = 0 then (if t351 = 0 then (if (t350.length : Int) = 0 then (if t355 = 0 then (if t354.toList = (strOfNums (List.replicate 300 0)).toList then (if t357 = t359 then (if a2 = a1 then (some true) else (some (t356.toList == t358.toList))) else (some false)) else (some false)) else (some false)) else (some false)) else (some false)) else (some false)) = some r := H
      have A12 := Aside0.mk A120
      clear A120
      by_cases c13 : t347 = 0
      · rw [if_pos c13] at H
        have c13b0 : (t347 == 0) = true := beq_iff_eq.mpr c13
        have c13b1 : (t347 != 0) = false := bne_eq_false_iff_eq.mpr c13
        clear c13
        by_cases c14 : t351 = 0
        · rw [if_pos c14] at H
          have c14b0 : (t351 == 0) = true := beq_iff_eq.mpr c14
          have c14b1 : (t351 != 0) = false := bne_eq_false_iff_eq.mpr c14
          clear c14
          by_cases c15 : (t350.length : Int) = 0
          · rw [if_pos c15] at H
            have c15b0 : ((t350.length : Int) == 0) = true := beq_iff_eq.mpr c15
            have c15b1 : ((t350.length : Int) != 0) = false := bne_eq_false_iff_eq.mpr c15
            clear c15
            by_cases c16 : t355 = 0
            · rw [if_pos c16] at H
              have c16b0 : (t355 == 0) = true := beq_iff_eq.mpr c16
              have c16b1 : (t355 != 0) = false := bne_eq_false_iff_eq.mpr c16
              clear c16
              obtain ⟨y360, hy360⟩ : ∃ y_ : List Int, y_ = (List.replicate 300 0) := ⟨_, rfl⟩
              replace H : (if t354.toList = (strOfNums y360).toList then (if t357 = t359 then (if a2 = a1 then (some true) else (some (t356.toList == t358.toList))) else (some false)) else (some false)) = some r := by first | (rw [hy360]; with_reducible exact H) | (have H2_ := (Option.bind_some _ _).symm.trans H; rw [hy360]; with_reducible exact H2_) | (have H2_ := (Option.bind_some _ _).symm.trans H; with_reducible exact H2_) | with_reducible exact H | (rw [hy360]; exact H) | exact H
              have Ny360 := Aside0.mk hy360
              clear hy360
              by_cases c17 : t354.toList = (strOfNums y360).toList
              · rw [if_pos c17] at H
                have c17b0 : (t354.toList == (strOfNums y360).toList) = true := beq_iff_eq.mpr c17
                have c17b1 : (t354.toList != (strOfNums y360).toList) = false := bne_eq_false_iff_eq.mpr c17
                clear c17
                by_cases c18 : t357 = t359
                · rw [if_pos c18] at H
                  have c18b0 : (t357 == t359) = true := beq_iff_eq.mpr c18
                  have c18b1 : (t357 != t359) = false := bne_eq_false_iff_eq.mpr c18
                  clear c18
                  by_cases c19 : a2 = a1
                  · rw [if_pos c19] at H
                    have c19b0 : (a2 == a1) = true := beq_iff_eq.mpr c19
                    have c19b1 : (a2 != a1) = false := bne_eq_false_iff_eq.mpr c19
                    clear c19
                    obtain rfl := Option.some.inj H
                    go_enter Tryz.func7, Tryz.ntmps7
                    go_wp2_with (first | ((with_reducible refine gate_callee (f := 8) rfl ?_); refine gl_ (some 19) Tryz.func8 #[] ?_; (with_reducible refine (cambiumlaw13_lives.calls k  true _ A4.out).mono ?_); rintro e w20 ⟨rfl, hb⟩; refine ⟨_, rfl, ?_⟩; replace HB := hb_ hb; (try clear hb); (try clear hb2); (try clear hk); (try clear hi)) | ((with_reducible refine gate_callee (f := 12) rfl ?_); refine gl_ (some 24) Tryz.func12 #[.slice A0 l0.length c0, .int .u32 a1, .int .u32 0] ?_; (with_reducible refine (data_Cut.calls k _ _ l0 a1 0 t342 t343 _ ?side1 ?side2 A6.out).mono ?_); (case side1 => exact cb_ HR0); (case side2 => exact HC0.out); rintro e w21 ⟨v344, rfl, ho0, hb⟩; refine ⟨_, rfl, ?_⟩; have HO345 := rl_ ho0; replace HB := hb_ hb; (try clear hb); (try clear hb2); (try clear hk); (try clear hi); (try clear ho0); obtain ⟨Ao22, co22, eo22⟩ := Kd.R_slice HO345.out; subst eo22) | ((with_reducible refine gate_callee (f := 10) rfl ?_); refine gl_ (some 32) Tryz.func10 #[.slice A0 l0.length c0, .slice Ao22 t342.length co22] ?_; (with_reducible refine (item_Apply.calls k _ _ l0 _ _ t342 t346 t347 _ ?side1 ?side2 ?side3 ?side4 A8.out).mono ?_); (case side1 => exact cb_ HR0); (case side2 => exact HC0.out); (case side3 => exact cr_ HO345); (case side4 => exact (Kd.R_reads' HO345.out).2.1); rintro e w23 ⟨v348, rfl, ho0, hb⟩; refine ⟨_, rfl, ?_⟩; have HO349 := rl_ ho0; replace HO345 := rb_ HO345 hb; replace HB := hb_ hb; (try clear hb); (try clear hb2); (try clear hk); (try clear hi); (try clear ho0); obtain ⟨Ao24, co24, eo24⟩ := Kd.R_slice HO349.out; subst eo24) | ((with_reducible refine gate_callee (f := 12) rfl ?_); refine gl_ (some 38) Tryz.func12 #[.slice Ao24 t346.length co24, .int .u32 a1, .int .u32 65536] ?_; (with_reducible refine (data_Cut.calls k _ _ t346 a1 65536 t350 t351 _ ?side1 ?side2 A9.out).mono ?_); (case side1 => exact cr_ HO349); (case side2 => exact (Kd.R_reads' HO349.out).2.1); rintro e w25 ⟨v352, rfl, ho0, hb⟩; refine ⟨_, rfl, ?_⟩; have HO353 := Aside0.mk (Kd.R_lower (Kd.R_new' ho0 (Kd.R_lt (ra_ HO345))) (below_size bel_)); replace HO345 := Aside0.mk (Kd.R_elder' (ra_ HO345) (Kd.R_base ho0) hb); replace HO349 := rb_ HO349 hb; replace HB := hb_ hb; (try clear hb); (try clear hb2); (try clear hk); (try clear hi); (try clear ho0)) | ((with_reducible refine gate_callee (f := 11) rfl ?_); refine gl_ (some 44) Tryz.func11 #[.slice Ao24 t346.length co24, .int .u32 a1, .int .u32 300, .int .u32 0, .int .u32 300] ?_; (with_reducible refine (data_Read.calls k _ _ t346 a1 300 0 300 t354 t355 _ ?side1 ?side2 A10.out).mono ?_); (case side1 => exact cr_ HO349); (case side2 => exact (Kd.R_reads' HO349.out).2.1); rintro e w26 ⟨rfl, hb⟩; refine ⟨_, rfl, ?_⟩; replace HO345 := rb_ HO345 hb; replace HO349 := rb_ HO349 hb; replace HO353 := rb_ HO353 hb; replace HB := hb_ hb; (try clear hb); (try clear hb2); (try clear hk); (try clear hi)) | ((with_reducible refine gate_callee (f := 11) rfl ?_); refine gl_ (some 50) Tryz.func11 #[.slice A0 l0.length c0, .int .u32 a2, .int .u32 300, .int .u32 0, .int .u32 300] ?_; (with_reducible refine (data_Read.calls k _ _ l0 a2 300 0 300 t356 t357 _ ?side1 ?side2 A11.out).mono ?_); (case side1 => exact cb_ HR0); (case side2 => exact HC0.out); rintro e w27 ⟨rfl, hb⟩; refine ⟨_, rfl, ?_⟩; replace HO345 := rb_ HO345 hb; replace HO349 := rb_ HO349 hb; replace HO353 := rb_ HO353 hb; replace HB := hb_ hb; (try clear hb); (try clear hb2); (try clear hk); (try clear hi)) | ((with_reducible refine gate_callee (f := 11) rfl ?_); refine gl_ (some 56) Tryz.func11 #[.slice Ao24 t346.length co24, .int .u32 a2, .int .u32 300, .int .u32 0, .int .u32 300] ?_; (with_reducible refine (data_Read.calls k _ _ t346 a2 300 0 300 t358 t359 _ ?side1 ?side2 A12.out).mono ?_); (case side1 => exact cr_ HO349); (case side2 => exact (Kd.R_reads' HO349.out).2.1); rintro e w28 ⟨rfl, hb⟩; refine ⟨_, rfl, ?_⟩; replace HO345 := rb_ HO345 hb; replace HO349 := rb_ HO349 hb; replace HO353 := rb_ HO353 hb; replace HB := hb_ hb; (try clear hb); (try clear hb2); (try clear hk); (try clear hi); obtain ⟨Ao29, co29, eo29⟩ := Kd.R_slice HO353.out; subst eo29) | ((with_reducible refine gate_dst (N := 76) rfl ?_); (try (refine gate_guard (by rfl) ?_; dsimp only)); refine Kd.R_make (Kd.int .u8) _ 5 rfl (N := 76) rfl 40 _ _ rfl 300 rfl rfl Tryz.underlying40 (.int .u8 0) 1 info5 rfl (by decide) (by omega) 0 (ok := fun _ => True) (okp := fun _ => True) rfl (fun _ hk => hk) trivial (by omega) (by omega) (Below.refl _ _) (Nat.le_refl _) ?_; intro v361 w30 ho31 hb hg_ hnew_; clear hg_ hnew_; (first | rw [← Ny360.out] at ho31 | (simp only [Int.reduceToNat] at ho31; rw [← Ny360.out] at ho31)); have HO362 := rl_ ho31; replace HO345 := rb_ HO345 hb; replace HO349 := rb_ HO349 hb; replace HO353 := rb_ HO353 hb; replace HB := hb_ hb; clear hb ho31; have hcv32 := own_string (P := Tryz.prog) Tryz.underlying40 Tryz.underlying5 Tryz.underlying9 (Kd.own_of_R HO362.out)))
                    go_ret
                    exact ⟨by first | rfl | (simp [errW_none, errW_some] <;> rfl) | (simp [*, errW_none, errW_some] <;> rfl), bel_⟩
                  rw [if_neg c19] at H
                  have c19b0 : (a2 == a1) = false := beq_eq_false_iff_ne.mpr c19
                  have c19b1 : (a2 != a1) = true := bne_iff_ne.mpr c19
                  obtain rfl := Option.some.inj H
                  go_enter Tryz.func7, Tryz.ntmps7
                  go_wp2_with (first | ((with_reducible refine gate_callee (f := 8) rfl ?_); refine gl_ (some 19) Tryz.func8 #[] ?_; (with_reducible refine (cambiumlaw13_lives.calls k  true _ A4.out).mono ?_); rintro e w33 ⟨rfl, hb⟩; refine ⟨_, rfl, ?_⟩; replace HB := hb_ hb; (try clear hb); (try clear hb2); (try clear hk); (try clear hi)) | ((with_reducible refine gate_callee (f := 12) rfl ?_); refine gl_ (some 24) Tryz.func12 #[.slice A0 l0.length c0, .int .u32 a1, .int .u32 0] ?_; (with_reducible refine (data_Cut.calls k _ _ l0 a1 0 t342 t343 _ ?side1 ?side2 A6.out).mono ?_); (case side1 => exact cb_ HR0); (case side2 => exact HC0.out); rintro e w34 ⟨v344, rfl, ho0, hb⟩; refine ⟨_, rfl, ?_⟩; have HO345 := rl_ ho0; replace HB := hb_ hb; (try clear hb); (try clear hb2); (try clear hk); (try clear hi); (try clear ho0); obtain ⟨Ao35, co35, eo35⟩ := Kd.R_slice HO345.out; subst eo35) | ((with_reducible refine gate_callee (f := 10) rfl ?_); refine gl_ (some 32) Tryz.func10 #[.slice A0 l0.length c0, .slice Ao35 t342.length co35] ?_; (with_reducible refine (item_Apply.calls k _ _ l0 _ _ t342 t346 t347 _ ?side1 ?side2 ?side3 ?side4 A8.out).mono ?_); (case side1 => exact cb_ HR0); (case side2 => exact HC0.out); (case side3 => exact cr_ HO345); (case side4 => exact (Kd.R_reads' HO345.out).2.1); rintro e w36 ⟨v348, rfl, ho0, hb⟩; refine ⟨_, rfl, ?_⟩; have HO349 := rl_ ho0; replace HO345 := rb_ HO345 hb; replace HB := hb_ hb; (try clear hb); (try clear hb2); (try clear hk); (try clear hi); (try clear ho0); obtain ⟨Ao37, co37, eo37⟩ := Kd.R_slice HO349.out; subst eo37) | ((with_reducible refine gate_callee (f := 12) rfl ?_); refine gl_ (some 38) Tryz.func12 #[.slice Ao37 t346.length co37, .int .u32 a1, .int .u32 65536] ?_; (with_reducible refine (data_Cut.calls k _ _ t346 a1 65536 t350 t351 _ ?side1 ?side2 A9.out).mono ?_); (case side1 => exact cr_ HO349); (case side2 => exact (Kd.R_reads' HO349.out).2.1); rintro e w38 ⟨v352, rfl, ho0, hb⟩; refine ⟨_, rfl, ?_⟩; have HO353 := Aside0.mk (Kd.R_lower (Kd.R_new' ho0 (Kd.R_lt (ra_ HO345))) (below_size bel_)); replace HO345 := Aside0.mk (Kd.R_elder' (ra_ HO345) (Kd.R_base ho0) hb); replace HO349 := rb_ HO349 hb; replace HB := hb_ hb; (try clear hb); (try clear hb2); (try clear hk); (try clear hi); (try clear ho0)) | ((with_reducible refine gate_callee (f := 11) rfl ?_); refine gl_ (some 44) Tryz.func11 #[.slice Ao37 t346.length co37, .int .u32 a1, .int .u32 300, .int .u32 0, .int .u32 300] ?_; (with_reducible refine (data_Read.calls k _ _ t346 a1 300 0 300 t354 t355 _ ?side1 ?side2 A10.out).mono ?_); (case side1 => exact cr_ HO349); (case side2 => exact (Kd.R_reads' HO349.out).2.1); rintro e w39 ⟨rfl, hb⟩; refine ⟨_, rfl, ?_⟩; replace HO345 := rb_ HO345 hb; replace HO349 := rb_ HO349 hb; replace HO353 := rb_ HO353 hb; replace HB := hb_ hb; (try clear hb); (try clear hb2); (try clear hk); (try clear hi)) | ((with_reducible refine gate_callee (f := 11) rfl ?_); refine gl_ (some 50) Tryz.func11 #[.slice A0 l0.length c0, .int .u32 a2, .int .u32 300, .int .u32 0, .int .u32 300] ?_; (with_reducible refine (data_Read.calls k _ _ l0 a2 300 0 300 t356 t357 _ ?side1 ?side2 A11.out).mono ?_); (case side1 => exact cb_ HR0); (case side2 => exact HC0.out); rintro e w40 ⟨rfl, hb⟩; refine ⟨_, rfl, ?_⟩; replace HO345 := rb_ HO345 hb; replace HO349 := rb_ HO349 hb; replace HO353 := rb_ HO353 hb; replace HB := hb_ hb; (try clear hb); (try clear hb2); (try clear hk); (try clear hi)) | ((with_reducible refine gate_callee (f := 11) rfl ?_); refine gl_ (some 56) Tryz.func11 #[.slice Ao37 t346.length co37, .int .u32 a2, .int .u32 300, .int .u32 0, .int .u32 300] ?_; (with_reducible refine (data_Read.calls k _ _ t346 a2 300 0 300 t358 t359 _ ?side1 ?side2 A12.out).mono ?_); (case side1 => exact cr_ HO349); (case side2 => exact (Kd.R_reads' HO349.out).2.1); rintro e w41 ⟨rfl, hb⟩; refine ⟨_, rfl, ?_⟩; replace HO345 := rb_ HO345 hb; replace HO349 := rb_ HO349 hb; replace HO353 := rb_ HO353 hb; replace HB := hb_ hb; (try clear hb); (try clear hb2); (try clear hk); (try clear hi); obtain ⟨Ao42, co42, eo42⟩ := Kd.R_slice HO353.out; subst eo42) | ((with_reducible refine gate_dst (N := 76) rfl ?_); (try (refine gate_guard (by rfl) ?_; dsimp only)); refine Kd.R_make (Kd.int .u8) _ 5 rfl (N := 76) rfl 40 _ _ rfl 300 rfl rfl Tryz.underlying40 (.int .u8 0) 1 info5 rfl (by decide) (by omega) 0 (ok := fun _ => True) (okp := fun _ => True) rfl (fun _ hk => hk) trivial (by omega) (by omega) (Below.refl _ _) (Nat.le_refl _) ?_; intro v361 w43 ho44 hb hg_ hnew_; clear hg_ hnew_; (first | rw [← Ny360.out] at ho44 | (simp only [Int.reduceToNat] at ho44; rw [← Ny360.out] at ho44)); have HO362 := rl_ ho44; replace HO345 := rb_ HO345 hb; replace HO349 := rb_ HO349 hb; replace HO353 := rb_ HO353 hb; replace HB := hb_ hb; clear hb ho44; have hcv45 := own_string (P := Tryz.prog) Tryz.underlying40 Tryz.underlying5 Tryz.underlying9 (Kd.own_of_R HO362.out)))
                  go_ret
                  exact ⟨by first | rfl | (simp [errW_none, errW_some] <;> rfl) | (simp [*, errW_none, errW_some] <;> rfl), bel_⟩
                rw [if_neg c18] at H
                have c18b0 : (t357 == t359) = false := beq_eq_false_iff_ne.mpr c18
                have c18b1 : (t357 != t359) = true := bne_iff_ne.mpr c18
                exact absurd ((Option.some.inj H).trans HT_.out) (by simp)
              rw [if_neg c17] at H
              have c17b0 : (t354.toList == (strOfNums y360).toList) = false := beq_eq_false_iff_ne.mpr c17
              have c17b1 : (t354.toList != (strOfNums y360).toList) = true := bne_iff_ne.mpr c17
              exact absurd ((Option.some.inj H).trans HT_.out) (by simp)
            rw [if_neg c16] at H
            have c16b0 : (t355 == 0) = false := beq_eq_false_iff_ne.mpr c16
            have c16b1 : (t355 != 0) = true := bne_iff_ne.mpr c16
            exact absurd ((Option.some.inj H).trans HT_.out) (by simp)
          rw [if_neg c15] at H
          have c15b0 : ((t350.length : Int) == 0) = false := beq_eq_false_iff_ne.mpr c15
          have c15b1 : ((t350.length : Int) != 0) = true := bne_iff_ne.mpr c15
          have c15b2 : ¬ (t350 = []) := fun h_ => c15 (by rw [h_]; rfl)
          exact absurd ((Option.some.inj H).trans HT_.out) (by simp)
        rw [if_neg c14] at H
        have c14b0 : (t351 == 0) = false := beq_eq_false_iff_ne.mpr c14
        have c14b1 : (t351 != 0) = true := bne_iff_ne.mpr c14
        exact absurd ((Option.some.inj H).trans HT_.out) (by simp)
      rw [if_neg c13] at H
      have c13b0 : (t347 == 0) = false := beq_eq_false_iff_ne.mpr c13
      have c13b1 : (t347 != 0) = true := bne_iff_ne.mpr c13
      exact absurd ((Option.some.inj H).trans HT_.out) (by simp)
    rw [if_neg c7] at H
    have c7b0 : (t343 == 0) = false := beq_eq_false_iff_ne.mpr c7
    have c7b1 : (t343 != 0) = true := bne_iff_ne.mpr c7
    obtain rfl := Option.some.inj H
    go_enter Tryz.func7, Tryz.ntmps7
    go_wp2_with (first | ((with_reducible refine gate_callee (f := 8) rfl ?_); refine gl_ (some 19) Tryz.func8 #[] ?_; (with_reducible refine (cambiumlaw13_lives.calls k  true _ A4.out).mono ?_); rintro e w46 ⟨rfl, hb⟩; refine ⟨_, rfl, ?_⟩; replace HB := hb_ hb; (try clear hb); (try clear hb2); (try clear hk); (try clear hi)) | ((with_reducible refine gate_callee (f := 12) rfl ?_); refine gl_ (some 24) Tryz.func12 #[.slice A0 l0.length c0, .int .u32 a1, .int .u32 0] ?_; (with_reducible refine (data_Cut.calls k _ _ l0 a1 0 t342 t343 _ ?side1 ?side2 A6.out).mono ?_); (case side1 => exact cb_ HR0); (case side2 => exact HC0.out); rintro e w47 ⟨v344, rfl, ho0, hb⟩; refine ⟨_, rfl, ?_⟩; have HO345 := rl_ ho0; replace HB := hb_ hb; (try clear hb); (try clear hb2); (try clear hk); (try clear hi); (try clear ho0)))
    go_ret
    exact ⟨by first | rfl | (simp [errW_none, errW_some] <;> rfl) | (simp [*, errW_none, errW_some] <;> rfl), bel_⟩
  replace c5 := Bool.eq_false_iff.mpr c5
  subst c5
  have H1 : (some false) = some r := by rw [if_neg (show ¬ (false = true) by decide)] at H; exact H
  clear H
  have H := H1
  clear H1
  exact absurd ((Option.some.inj H).trans HT_.out) (by simp)

end Go.Proofs.YtnngbhdofgodiaaGreatDoor.Z
end

section
/- DataNothing, over lists: the law's function answers true. -/
namespace Go.Proofs.YtnngbhdofgodiaaGreatDoor.Pure
open Go.RowKit Go.Proofs.YtnngbhdofgodiaaGreatDoor Go.Proofs.YtnngbhdofgodiaaGreatDoor.Z Go.Proofs.YtnngbhdofgodiaaGreatDoorW.PrintWords Go.Proofs.YtnngbhdofgodiaaGreatDoor.PM
set_option linter.unusedVariables false
set_option linter.unusedSimpArgs false
theorem DataNothing : ∀ (l0 : List (S54)) (a1 : Int) (a2 : Int), l0.length ≤ maxLen → (∀ x ∈ l0, Z.G54 x) → l0.length * 32 ≤ 140737488351232 → (Lit.int .u32 a1).wf = true → (Lit.int .u32 a2).wf = true → ∃ k, Z.cambiumlaw13_DataNothing.f k l0 a1 a2 = some true := by
  intro l ino i2 _ _ hl w1 w2
  have hi := wf32 w1
  have hi2 := wf32 w2
  refine Ev.rounds ?_
  unfold cambiumlaw13_DataNothing.f
  refine Ev.bind lives_f (Ev.ifp rfl ?_)
  by_cases hok : okL l = true ∧ ino ≠ 0 ∧ (0 : Int) ≤ 65536
  case neg =>
    obtain ⟨e, h1, h2⟩ := cutSS_bad hok
    exact Ev.bind (Ev.val (data_Cut_f l (by omega) hi ⟨by decide, by decide⟩) h1) (Ev.ifn h2 (Ev.const rfl))
  case pos =>
    obtain ⟨hk, h0, hb⟩ := hok
    have hi' : 0 < ino ∧ ino < 4294967296 := ⟨by omega, hi.2⟩
    have hoc := cuC_okC hk hi' 0
    have hgr := apl_len_in (cuC l ino 0) l hk hoc (cuC_pair hk hi' 0) (cuC_in hk hi' 0)
    have hcl := cuC_len hk hi' 0
    have hml := hgr (cuC l ino 0).length
    rw [List.take_length] at hml
    have hB := fun (q : Nat) (hq : q < 65536) => cuC_byte hk hi' 0 hq
    have hO := fun (j : Int) (hj : 0 < j ∧ j < 4294967296) (hne : j ≠ ino) (q : Nat) (hq : q < 65536) => cuC_other hk hi' hj hne 0 hq
    have hmk := cuC_okL hk hi' 0
    have hd := (cuC_done hk hi' 0).1
    refine Ev.bind (Ev.val (data_Cut_f l (by omega) hi ⟨by decide, by decide⟩) (cutSS_ok hk h0 hb)) (Ev.ifp rfl ?_)
    refine Ev.bind (Ev.val (itApplyIn l (cuC l ino 0) (by omega) (fun t => by have := hgr t; omega)) (aplS_ok hk hoc)) ?_
    dsimp only
    generalize apl l (cuC l ino 0) = m at hB hO hml hmk hd
    have hown : own m ino = [] := by
      refine List.eq_nil_iff_forall_not_mem.2 (fun x hx => ?_)
      obtain ⟨hm, hK⟩ := own_mem hx
      obtain ⟨j, hj, hkc⟩ := (isK_iff hi' _).1 hK
      have h1 := look_mem_ ((okL_iff m).1 hmk).2 hm
      have h2 := hd j hj
      rw [hkc] at h1
      unfold lk at h2
      rw [h1] at h2
      unfold cutO at h2
      split at h2
      · cases h2
      · rw [if_pos (by omega)] at h2
        cases h2
    have hag : cuC m ino 65536 = [] := by
      unfold cuC
      rw [hown]
      rfl
    have hrd : readS m ino 300 0 300 = (strOfNums (List.replicate 300 0), 0) := by
      rw [readS_ok hmk h0 (by decide)]
      have e := nums_be (List.replicate 300 0)
      rw [List.map_replicate] at e
      rw [show (0 : Int).toNat = 0 from rfl, show (min (300 : Int) (0 + 300)).toNat - 0 = 300 by decide]
      rw [List.map_congr_left (g := fun _ => (0 : UInt8)) (fun q hq => (hB q (by have := List.mem_range'_1.1 hq; omega)).trans (if_neg (by omega)))]
      rw [List.map_const', List.length_range', ← e]
      rfl
    refine Ev.bind (Ev.val (data_Cut_f m (by omega) hi ⟨by decide, by decide⟩) ((cutSS_ok hmk h0 (by decide)).trans (by rw [hag]))) ?_
    refine Ev.bind (Ev.val (data_Read_f m (by omega) hi (by decide) ⟨by decide, by decide⟩ ⟨by decide, by decide⟩) hrd) ?_
    refine Ev.bind (data_Read_f l (by omega) hi2 (by decide) ⟨by decide, by decide⟩ ⟨by decide, by decide⟩) (Ev.bind (data_Read_f m (by omega) hi2 (by decide) ⟨by decide, by decide⟩ ⟨by decide, by decide⟩) ?_)
    have hsame : (readS l i2 300 0 300).2 = (readS m i2 300 0 300).2 := by
      by_cases hz : i2 = 0
      · subst hz
        rw [readS_zero hk, readS_zero hmk]
      · rw [readS_ok hk hz (by decide), readS_ok hmk hz (by decide)]
    refine Ev.ifp rfl (Ev.ifp rfl (Ev.ifp rfl (Ev.ifp rfl (Ev.ifp rfl (Ev.ifp hsame (Ev.ite (fun _ => Ev.const rfl) (fun hne => Ev.const ?_)))))))
    have heq : (readS l i2 300 0 300).1 = (readS m i2 300 0 300).1 := by
      by_cases hz : i2 = 0
      · subst hz
        rw [readS_zero hk, readS_zero hmk]
      · rw [readS_ok hk hz (by decide), readS_ok hmk hz (by decide)]
        have hm : (List.range' 0 300).map (byteD l i2) = (List.range' 0 300).map (byteD m i2) := List.map_congr_left (fun q hq => (hO i2 ⟨by omega, hi2.2⟩ hne q (by have := List.mem_range'_1.1 hq; omega)).symm)
        rw [show (0 : Int).toNat = 0 from rfl, show (min (300 : Int) (0 + 300)).toNat - 0 = 300 by decide, hm]
    rw [heq]
    simp
end Go.Proofs.YtnngbhdofgodiaaGreatDoor.Pure
end

section
/- cambium/cambiumlaw13.DataNothing: at every input the law's function returns true, and each argument reads afterwards as before. Conditions: none beyond the row's own. Printed by a program of this session (mp.py) over the pure statement in YtnngbhdofgodiaaGreatDoorPureDataNothing. -/
namespace Go.Proofs.YtnngbhdofgodiaaGreatDoor.dataNothing
open Go.ChangeShapes Go.WideShapes Go.ChangeAt Go.RowKit
open Go.ChangeMaps (open_string shut_string)
set_option linter.unusedVariables false
set_option linter.unusedSimpArgs false
theorem own : ownKnob Tryz.prog.godebug = none := by kernel_rfl
theorem laidOut : laidOutB Tryz.prog = true := by kernel_rfl
def lay0 : Obj → Obj
  | .cells _ t frozen => .cells (((Pinned.numbers IntKind.u8 Pinned.utf8FirstZ : List (DataW Unit)).map (fun x => match x with | .lit (.int k v) => Value.int k v | _ => .int .u8 0)).toArray) t frozen
  | o => o
def lay1 : Obj → Obj
  | .cells _ t frozen => .cells #[.int .u8 128, .int .u8 191, .int .u8 160, .int .u8 191, .int .u8 128, .int .u8 159, .int .u8 144, .int .u8 191, .int .u8 128, .int .u8 143, .int .u8 0, .int .u8 0, .int .u8 0, .int .u8 0, .int .u8 0, .int .u8 0, .int .u8 0, .int .u8 0, .int .u8 0, .int .u8 0, .int .u8 0, .int .u8 0, .int .u8 0, .int .u8 0, .int .u8 0, .int .u8 0, .int .u8 0, .int .u8 0, .int .u8 0, .int .u8 0, .int .u8 0, .int .u8 0] t frozen
  | o => o
noncomputable def laidWorld (os : Os) : World :=
  { World.holding Tryz.prog os ⟨#[], #[], []⟩ with heap := ((World.holding Tryz.prog os ⟨#[], #[], []⟩).heap.modify 0 lay0).modify 1 lay1 }
theorem laid_met (os : Os) : laidMet Tryz.prog Rows.dataNothingRow.laid ((laidWorld os).forCall (fun _ _ => 0) ⟨#[], #[.slice none 0 0, .int .u32 0, .int .u32 0], []⟩).memory :=
  laidMet_of_run' 8 (by kernel_rfl) (by kernel_rfl)
theorem reads (os : Os) {H : Type} (enc : TypeId × Value → H) : ∃ places, DataW.whole enc Tryz.prog ((laidWorld os).forCall (fun _ _ => 0) ⟨#[], #[.slice none 0 0, .int .u32 0, .int .u32 0], []⟩).memory Tryz.f7.params.toList Rows.dataNothingSpec.vars false (#[.slice none 0 0, .int .u32 0, .int .u32 0] : Array Value).toList 8 = some ([.nil, .lit (.int .u32 0), .lit (.int .u32 0)], [], places) :=
  ⟨[], by kernel_rfl⟩
set_option maxHeartbeats 1000000 in
set_option maxRecDepth 100000 in
theorem lifted (os : Os) (started : os.Started) (H : Type) (enc : TypeId × Value → H) (F : Stop.Interp) :
    ReturnsInHanded {} Tryz.checked os 7 .any ((OpenSpec.ofChange Rows.dataNothingSpec).preRow enc Tryz.prog Tryz.f7 Rows.dataNothingRow.domain false Rows.dataNothingRow.laid) (((OpenSpec.ofChange Rows.dataNothingSpec).at F).post enc Tryz.prog Tryz.f7 false true false false) := by
  obtain ⟨places, hx⟩ := reads os enc
  refine returnsInHanded_of_row (C := Tryz.checked) (s := OpenSpec.ofChange Rows.dataNothingSpec) own started (by kernel_rfl) Tryz.func7
    (witness_row_at (enc := enc) (C := Tryz.checked) false (laidWorld os) #[.slice none 0 0, .int .u32 0, .int .u32 0] rfl (by kernel_rfl) (by kernel_rfl) (by kernel_rfl)
      (OpenSpec.preRow_of_cond 8 hx (by kernel_rfl) (fun k hk => by cases hk) (by kernel_rfl) (laid_met os))) ?_
  intro W base args ds gs before hval0 hW hcn0_ hcnd hwz_ _ _ _
  have hsz : (DataW.weightsEach Tryz.prog (Tryz.f7.params.toList ++ Rows.dataNothingSpec.plain.varTypes Tryz.prog) (ds ++ gs)).all (· ≤ reachBytes) = true := hwz_
  have hval : ∀ (j : Nat) t v, Tryz.f7.params[j]? = some t → args[j]? = some v → Value.okWide Tryz.prog W .any base t v := hval0
  have hW' := hW
  obtain ⟨p, q, hA0, hV, rfl, hfz, hnd⟩ := hW
  have hA : DataW.TrodAll enc Tryz.prog W 0 (fun _ => true) true Tryz.f7.params.toList args.toList ds p := hA0
  rw [Tryz.params7] at hA hval hsz
  obtain ⟨v0, vs0, d0, ds0, p0, q0, hargs, rfl, rfl, h0, r0⟩ := trodAll_cons hA
  obtain ⟨v1, vs1, d1, ds1, p1, q1, rfl, rfl, rfl, h1, r1⟩ := trodAll_cons r0
  obtain ⟨v2, vs2, d2, ds2, p2, q2, rfl, rfl, rfl, h2, r2⟩ := trodAll_cons r1
  obtain ⟨rfl, rfl, rfl⟩ := trodAll_nil r2
  obtain rfl : args = #[v0, v1, v2] := by cases args; simp_all
  obtain ⟨rfl, rfl⟩ := trodVars_none hV
  have k0 := h0
  have lt0 : ∀ x ∈ p0, x.block < W.heap.size := by obtain ⟨m, hm⟩ := k0; exact DataW.trod_lt m _ _ _ hm
  obtain ⟨a0, len0, cap0, rfl⟩ := okWide_slice Tryz.underlying22 (hval 0 22 v0 rfl rfl)
  obtain ⟨fuel0, hf0⟩ := h0
  obtain ⟨A0, c0, l0, hcs0, hlc0, hcm0, hC0, hG0, hB0, hx0⟩ := Z.Opens.row Tryz.underlying22 Z.opens54 (of_decide_eq_true (by kernel_rfl)) hf0
  simp only [Value.cells, List.cons.injEq, Value.slice.injEq, and_true] at hcs0
  obtain ⟨rfl, rfl, rfl⟩ := hcs0
  have hlm0 : l0.length ≤ maxLen := Nat.le_trans hlc0 hcm0
  have hsz0 : l0.length * 32 ≤ 140737488351232 := Z.sized_row hsz (j := 0) (t := 22) rfl rfl Tryz.underlying22 (by kernel_rfl) hx0
  have k1 := h1
  have lt1 : ∀ x ∈ p1, x.block < W.heap.size := by obtain ⟨m, hm⟩ := k1; exact DataW.trod_lt m _ _ _ hm
  obtain ⟨a1, rfl, rfl, rfl, w1⟩ := open_int Tryz.underlying23 (hval 1 23 v1 rfl rfl) h1
  have k2 := h2
  have lt2 : ∀ x ∈ p2, x.block < W.heap.size := by obtain ⟨m, hm⟩ := k2; exact DataW.trod_lt m _ _ _ hm
  obtain ⟨a2, rfl, rfl, rfl, w2⟩ := open_int Tryz.underlying23 (hval 2 23 v2 rfl rfl) h2
  have hP := Pure.DataNothing l0 a1 a2 hlm0 hG0 hsz0 w1 w2
  obtain ⟨k, hk⟩ := hP
  refine (Z.cambiumlaw13_DataNothing.calls k _ _ l0 a1 a2 true W hC0 hlc0 hk).mono fun e W' ⟨he, bel0⟩ => ?_
  have bel : Below W.heap.size W W' := bel0
  subst he
  exact ⟨_, rfl, _, _, _, [], _, [], hW', trodAll_mk1 (shut_bool Tryz.underlying4 _), (trodAll_cons_mk (Below.trod laidOut (by kernel_rfl) (of_decide_eq_true (by kernel_rfl)) k0 bel lt0) (trodAll_cons_mk (Below.trod laidOut (by kernel_rfl) (of_decide_eq_true (by kernel_rfl)) k1 bel lt1) (trodAll_cons_mk (Below.trod laidOut (by kernel_rfl) (of_decide_eq_true (by kernel_rfl)) k2 bel lt2) trodAll_mk0))), rfl, bel.frame _, fun h => by cases h⟩
theorem over : Rows.DataNothingSaid :=
  OpenClaim.holds_of_cond 7 Tryz.f7 rfl rfl rfl rfl rfl rfl rfl ⟨rfl, rfl, rfl, rfl, rfl⟩ rfl rfl rfl rfl rfl (by kernel_rfl) Tryz.func7 (by kernel_rfl)
    (of_decide_eq_true (by kernel_rfl)) (by unfold Func.isWrapper; first | (rw [if_pos (by decide +kernel)]; kernel_rfl) | (rw [if_neg (by decide +kernel)]; exact ⟨rfl, rfl⟩))
    (fun os started H enc _ F => by rw [OpenClaim.pre_eq_preRow]; exact lifted os started H enc F)
theorem plain (f : FuncId) (fn : Func) (hf : Tryz.pinned.checked.prog.funcNamed "cambium/cambiumlaw13.DataNothing" = some f) (hfn : Tryz.pinned.checked.prog.funcs[f]? = some fn) :
    false = Tryz.pinned.checked.prog.looks [] ∧ ∀ (j : Nat) t, fn.params[j]? = some t → Tryz.pinned.checked.prog.wantsStandIn t = false := by
  obtain rfl : f = 7 := Option.some.inj ((show Tryz.prog.funcNamed "cambium/cambiumlaw13.DataNothing" = some 7 by kernel_rfl).symm.trans hf) |>.symm
  obtain rfl : fn = Tryz.f7 := (Option.some.inj (Tryz.func7.symm.trans hfn)).symm
  refine ⟨by kernel_rfl, fun j t ht => ?_⟩
  rw [Tryz.params7] at ht
  have hm := Array.mem_of_getElem? ht
  simp only [List.mem_toArray, List.mem_cons, List.not_mem_nil, or_false] at hm
  rcases hm with rfl | rfl | rfl <;> exact (show Tryz.prog.wantsStandIn _ = false by kernel_rfl)
theorem card : Rows.DataNothingCardSaid :=
  Claim7.holds_tied_plain_at .later [] _ _ _ _ over (fun _ h => by cases h) (by kernel_rfl) (fun _ h => by cases h) dataNothing_row_tie rfl ⟨rfl, rfl⟩ (by kernel_rfl) rfl plain (by kernel_rfl)
end Go.Proofs.YtnngbhdofgodiaaGreatDoor.dataNothing
namespace Go.Proofs.YtnngbhdofgodiaaGreatDoor
theorem dataNothing_holds : Rows.DataNothingCardSaid := dataNothing.card
#print axioms dataNothing_holds
end Go.Proofs.YtnngbhdofgodiaaGreatDoor
end
