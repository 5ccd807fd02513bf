/- This session's own texts, laid together (a part that several claims share). -/
import Derived.Test.YtfijciielmllbaaMB1
import Derived.Test.YtfijciielmllbaaMB2
import Derived.Test.YtfijciielmllbaaMB3
import Derived.Test.YtfijciielmllbaaRows
import Derived.Lib.SmallJoins
import Derived.Deep.Strs
import Derived.SizedLaws
import Derived.ChangeArms
section
-- Printed by a program of this session (mp.py) out of the translation.
namespace Go.Proofs.Ytfijciielmllbaa.Z
open Go.RowKit Go.Proofs.YtfijciielmllbaaW.PrintWords Go.Proofs.YtfijciielmllbaaW.PrintLast Go.Proofs.YtfijciielmllbaaW.PrintMore
attribute [local go_sem] max2_int min2_int max_two min_two max_three min_three max_four min_four   -- for this text's walks alone
set_option linter.unusedVariables false
set_option linter.unusedSimpArgs false

/-! ### cambiumlaw04_lives: function 4 -/
def cambiumlaw04_lives.f (k : Nat)  : Option (Bool) := (some (([(⟨(⟨#[97]⟩ : ByteArray), (⟨#[49]⟩ : ByteArray)⟩ : S31), (⟨(⟨#[98]⟩ : ByteArray), (⟨#[50]⟩ : ByteArray)⟩ : S31)] : List (S31)) : List (S31))).bind fun y234 => ((some (([(⟨(⟨#[98]⟩ : ByteArray), (⟨#[51]⟩ : ByteArray)⟩ : S31), (⟨(⟨#[99]⟩ : ByteArray), (⟨#[52]⟩ : ByteArray)⟩ : S31)] : List (S31)) : List (S31))).bind fun y237 => ((item_Diff.f k y234 y237).bind fun bt240 => ((item_Apply.f k y234 bt240.1).bind fun bt244 => ((item_Get.f k bt244.1 (⟨#[99]⟩ : ByteArray)).bind fun bt248 => ((item_Under.f k y234 (⟨#[98]⟩ : ByteArray)).bind fun bt250 => ((item_Get.f k y234 (⟨#[99]⟩ : ByteArray)).bind fun bt254 => (if (bt240.1.length : Int) = 3 then (if 0 < (bt240.1.length : Int) then (if ((rd_T39 bt240.1 0).f1 = true) then (some false) else (if 2 < (bt240.1.length : Int) then (if ((rd_T39 bt240.1 2).f2).toList = ([52] : List UInt8) then (if bt240.2 = 0 then ((cambiumref04_Same.f k y237 bt244.1).bind fun t258 => (if t258 = true then (if bt244.2 = 0 then (if bt248.1.toList = ([52] : List UInt8) then (if bt248.2 = 0 then (if (bt250.1.length : Int) = 1 then (if bt250.2 = 0 then (some (bt254.2 == 5)) else (some false)) else (some false)) else (some false)) else (some false)) else (some false)) else (some false))) else (some false)) else (some false)) else (none))) else (none)) else (some false))))))))
theorem cambiumlaw04_lives.mono : ∀ k, LeO (cambiumlaw04_lives.f k ) (cambiumlaw04_lives.f (k + 1) ) := by
  intro  k
  unfold cambiumlaw04_lives.f
  repeat' first
      | (with_reducible exact cambiumref04_Same.mono _ _ _)
      | (with_reducible exact item_Apply.mono _ _ _)
      | (with_reducible exact item_Diff.mono _ _ _)
      | (with_reducible exact item_Get.mono _ _ _)
      | (with_reducible exact item_Under.mono _ _ _)
      | (with_reducible exact LeO.refl _)
      | (with_reducible exact LeO.none _)
      | (with_reducible refine LeO.ite ?_ ?_)
      | (with_reducible refine LeO.bind ?_ (fun _ => ?_))
      | exact cambiumref04_Same.mono _ _ _
      | exact item_Apply.mono _ _ _
      | exact item_Diff.mono _ _ _
      | exact item_Get.mono _ _ _
      | exact item_Under.mono _ _ _
      | exact LeO.none _
      | refine LeO.ite ?_ ?_
      | refine LeO.bind ?_ (fun _ => ?_)
set_option maxHeartbeats 8000000 in
set_option maxRecDepth 100000 in
theorem cambiumlaw04_lives.calls (k : Nat)  (r : Bool) (w : World) (h : cambiumlaw04_lives.f k  = some r) (hT_ : r = true := by rfl) :
    Calls Try.prog 4 #[] w fun e w' => e = .returned (.bool r) ∧ Below w.heap.size w w' := by
  have HT_ := Aside0.mk hT_
  clear hT_
  have hu31 := Try.underlying31
  have HB := Aside0.mk (Below.refl w.heap.size w)
  have H : ((some (([(⟨(⟨#[97]⟩ : ByteArray), (⟨#[49]⟩ : ByteArray)⟩ : S31), (⟨(⟨#[98]⟩ : ByteArray), (⟨#[50]⟩ : ByteArray)⟩ : S31)] : List (S31)) : List (S31))).bind fun y234 => ((some (([(⟨(⟨#[98]⟩ : ByteArray), (⟨#[51]⟩ : ByteArray)⟩ : S31), (⟨(⟨#[99]⟩ : ByteArray), (⟨#[52]⟩ : ByteArray)⟩ : S31)] : List (S31)) : List (S31))).bind fun y237 => ((item_Diff.f k y234 y237).bind fun bt240 => ((item_Apply.f k y234 bt240.1).bind fun bt244 => ((item_Get.f k bt244.1 (⟨#[99]⟩ : ByteArray)).bind fun bt248 => ((item_Under.f k y234 (⟨#[98]⟩ : ByteArray)).bind fun bt250 => ((item_Get.f k y234 (⟨#[99]⟩ : ByteArray)).bind fun bt254 => (if (bt240.1.length : Int) = 3 then (if 0 < (bt240.1.length : Int) then (if ((rd_T39 bt240.1 0).f1 = true) then (some false) else (if 2 < (bt240.1.length : Int) then (if ((rd_T39 bt240.1 2).f2).toList = ([52] : List UInt8) then (if bt240.2 = 0 then ((cambiumref04_Same.f k y237 bt244.1).bind fun t258 => (if t258 = true then (if bt244.2 = 0 then (if bt248.1.toList = ([52] : List UInt8) then (if bt248.2 = 0 then (if (bt250.1.length : Int) = 1 then (if bt250.2 = 0 then (some (bt254.2 == 5)) else (some false)) else (some false)) else (some false)) else (some false)) else (some false)) else (some false))) else (some false)) else (some false)) else (none))) else (none)) else (some false))))))))) = some r := h
  clear h
  obtain ⟨y234, hy234⟩ : ∃ y_ : List (S31), y_ = (([(⟨(⟨#[97]⟩ : ByteArray), (⟨#[49]⟩ : ByteArray)⟩ : S31), (⟨(⟨#[98]⟩ : ByteArray), (⟨#[50]⟩ : ByteArray)⟩ : S31)] : List (S31))) := ⟨_, rfl⟩
  replace H : ((some (([(⟨(⟨#[98]⟩ : ByteArray), (⟨#[51]⟩ : ByteArray)⟩ : S31), (⟨(⟨#[99]⟩ : ByteArray), (⟨#[52]⟩ : ByteArray)⟩ : S31)] : List (S31)) : List (S31))).bind fun y237 => ((item_Diff.f k y234 y237).bind fun bt240 => ((item_Apply.f k y234 bt240.1).bind fun bt244 => ((item_Get.f k bt244.1 (⟨#[99]⟩ : ByteArray)).bind fun bt248 => ((item_Under.f k y234 (⟨#[98]⟩ : ByteArray)).bind fun bt250 => ((item_Get.f k y234 (⟨#[99]⟩ : ByteArray)).bind fun bt254 => (if (bt240.1.length : Int) = 3 then (if 0 < (bt240.1.length : Int) then (if ((rd_T39 bt240.1 0).f1 = true) then (some false) else (if 2 < (bt240.1.length : Int) then (if ((rd_T39 bt240.1 2).f2).toList = ([52] : List UInt8) then (if bt240.2 = 0 then ((cambiumref04_Same.f k y237 bt244.1).bind fun t258 => (if t258 = true then (if bt244.2 = 0 then (if bt248.1.toList = ([52] : List UInt8) then (if bt248.2 = 0 then (if (bt250.1.length : Int) = 1 then (if bt250.2 = 0 then (some (bt254.2 == 5)) else (some false)) else (some false)) else (some false)) else (some false)) else (some false)) else (some false))) else (some false)) else (some false)) else (none))) else (none)) else (some false)))))))) = some r := by first | (rw [hy234]; with_reducible exact H) | (have H2_ := (Option.bind_some _ _).symm.trans H; rw [hy234]; with_reducible exact H2_) | (have H2_ := (Option.bind_some _ _).symm.trans H; with_reducible exact H2_) | with_reducible exact H | (rw [hy234]; exact H) | exact H
  have Ny234 := Aside0.mk hy234
  clear hy234
  obtain ⟨y237, hy237⟩ : ∃ y_ : List (S31), y_ = (([(⟨(⟨#[98]⟩ : ByteArray), (⟨#[51]⟩ : ByteArray)⟩ : S31), (⟨(⟨#[99]⟩ : ByteArray), (⟨#[52]⟩ : ByteArray)⟩ : S31)] : List (S31))) := ⟨_, rfl⟩
  replace H : ((item_Diff.f k y234 y237).bind fun bt240 => ((item_Apply.f k y234 bt240.1).bind fun bt244 => ((item_Get.f k bt244.1 (⟨#[99]⟩ : ByteArray)).bind fun bt248 => ((item_Under.f k y234 (⟨#[98]⟩ : ByteArray)).bind fun bt250 => ((item_Get.f k y234 (⟨#[99]⟩ : ByteArray)).bind fun bt254 => (if (bt240.1.length : Int) = 3 then (if 0 < (bt240.1.length : Int) then (if ((rd_T39 bt240.1 0).f1 = true) then (some false) else (if 2 < (bt240.1.length : Int) then (if ((rd_T39 bt240.1 2).f2).toList = ([52] : List UInt8) then (if bt240.2 = 0 then ((cambiumref04_Same.f k y237 bt244.1).bind fun t258 => (if t258 = true then (if bt244.2 = 0 then (if bt248.1.toList = ([52] : List UInt8) then (if bt248.2 = 0 then (if (bt250.1.length : Int) = 1 then (if bt250.2 = 0 then (some (bt254.2 == 5)) else (some false)) else (some false)) else (some false)) else (some false)) else (some false)) else (some false))) else (some false)) else (some false)) else (none))) else (none)) else (some false))))))) = some r := by first | (rw [hy237]; with_reducible exact H) | (have H2_ := (Option.bind_some _ _).symm.trans H; rw [hy237]; with_reducible exact H2_) | (have H2_ := (Option.bind_some _ _).symm.trans H; with_reducible exact H2_) | with_reducible exact H | (rw [hy237]; exact H) | exact H
  have Ny237 := Aside0.mk hy237
  clear hy237
  replace H := Option.bind_eq_some_iff.mp H
  obtain ⟨⟨t240, t243⟩, A10, H⟩ := H
  replace H : ((item_Apply.f k y234 t240).bind fun bt244 => ((item_Get.f k bt244.1 (⟨#[99]⟩ : ByteArray)).bind fun bt248 => ((item_Under.f k y234 (⟨#[98]⟩ : ByteArray)).bind fun bt250 => ((item_Get.f k y234 (⟨#[99]⟩ : ByteArray)).bind fun bt254 => (if (t240.length : Int) = 3 then (if 0 < (t240.length : Int) then (if ((rd_T39 t240 0).f1 = true) then (some false) else (if 2 < (t240.length : Int) then (if ((rd_T39 t240 2).f2).toList = ([52] : List UInt8) then (if t243 = 0 then ((cambiumref04_Same.f k y237 bt244.1).bind fun t258 => (if t258 = true then (if bt244.2 = 0 then (if bt248.1.toList = ([52] : List UInt8) then (if bt248.2 = 0 then (if (bt250.1.length : Int) = 1 then (if bt250.2 = 0 then (some (bt254.2 == 5)) else (some false)) else (some false)) else (some false)) else (some false)) else (some false)) else (some false))) else (some false)) else (some false)) else (none))) else (none)) else (some false)))))) = some r := H
  have A1 := Aside0.mk A10
  clear A10
  replace H := Option.bind_eq_some_iff.mp H
  obtain ⟨⟨t244, t245⟩, A20, H⟩ := H
  replace H : ((item_Get.f k t244 (⟨#[99]⟩ : ByteArray)).bind fun bt248 => ((item_Under.f k y234 (⟨#[98]⟩ : ByteArray)).bind fun bt250 => ((item_Get.f k y234 (⟨#[99]⟩ : ByteArray)).bind fun bt254 => (if (t240.length : Int) = 3 then (if 0 < (t240.length : Int) then (if ((rd_T39 t240 0).f1 = true) then (some false) else (if 2 < (t240.length : Int) then (if ((rd_T39 t240 2).f2).toList = ([52] : List UInt8) then (if t243 = 0 then ((cambiumref04_Same.f k y237 t244).bind fun t258 => (if t258 = true then (if t245 = 0 then (if bt248.1.toList = ([52] : List UInt8) then (if bt248.2 = 0 then (if (bt250.1.length : Int) = 1 then (if bt250.2 = 0 then (some (bt254.2 == 5)) else (some false)) else (some false)) else (some false)) else (some false)) else (some false)) else (some false))) else (some false)) else (some false)) else (none))) else (none)) else (some false))))) = some r := H
  have A2 := Aside0.mk A20
  clear A20
  replace H := Option.bind_eq_some_iff.mp H
  obtain ⟨⟨t248, t249⟩, A30, H⟩ := H
  replace H : ((item_Under.f k y234 (⟨#[98]⟩ : ByteArray)).bind fun bt250 => ((item_Get.f k y234 (⟨#[99]⟩ : ByteArray)).bind fun bt254 => (if (t240.length : Int) = 3 then (if 0 < (t240.length : Int) then (if ((rd_T39 t240 0).f1 = true) then (some false) else (if 2 < (t240.length : Int) then (if ((rd_T39 t240 2).f2).toList = ([52] : List UInt8) then (if t243 = 0 then ((cambiumref04_Same.f k y237 t244).bind fun t258 => (if t258 = true then (if t245 = 0 then (if t248.toList = ([52] : List UInt8) then (if t249 = 0 then (if (bt250.1.length : Int) = 1 then (if bt250.2 = 0 then (some (bt254.2 == 5)) else (some false)) else (some false)) else (some false)) else (some false)) else (some false)) else (some false))) else (some false)) else (some false)) else (none))) else (none)) else (some false)))) = some r := H
  have A3 := Aside0.mk A30
  clear A30
  replace H := Option.bind_eq_some_iff.mp H
  obtain ⟨⟨t250, t251⟩, A40, H⟩ := H
  replace H : ((item_Get.f k y234 (⟨#[99]⟩ : ByteArray)).bind fun bt254 => (if (t240.length : Int) = 3 then (if 0 < (t240.length : Int) then (if ((rd_T39 t240 0).f1 = true) then (some false) else (if 2 < (t240.length : Int) then (if ((rd_T39 t240 2).f2).toList = ([52] : List UInt8) then (if t243 = 0 then ((cambiumref04_Same.f k y237 t244).bind fun t258 => (if t258 = true then (if t245 = 0 then (if t248.toList = ([52] : List UInt8) then (if t249 = 0 then (if (t250.length : Int) = 1 then (if t251 = 0 then (some (bt254.2 == 5)) else (some false)) else (some false)) else (some false)) else (some false)) else (some false)) else (some false))) else (some false)) else (some false)) else (none))) else (none)) else (some false))) = some r := H
  have A4 := Aside0.mk A40
  clear A40
  replace H := Option.bind_eq_some_iff.mp H
  obtain ⟨⟨t254, t255⟩, A50, H⟩ := H
  replace H : (if (t240.length : Int) = 3 then (if 0 < (t240.length : Int) then (if ((rd_T39 t240 0).f1 = true) then (some false) else (if 2 < (t240.length : Int) then (if ((rd_T39 t240 2).f2).toList = ([52] : List UInt8) then (if t243 = 0 then ((cambiumref04_Same.f k y237 t244).bind fun t258 => (if t258 = true then (if t245 = 0 then (if t248.toList = ([52] : List UInt8) then (if t249 = 0 then (if (t250.length : Int) = 1 then (if t251 = 0 then (some (t255 == 5)) else (some false)) else (some false)) else (some false)) else (some false)) else (some false)) else (some false))) else (some false)) else (some false)) else (none))) else (none)) else (some false)) = some r := H
  have A5 := Aside0.mk A50
  clear A50
  by_cases c6 : (t240.length : Int) = 3
  · rw [if_pos c6] at H
    have c6b0 : ((t240.length : Int) == 3) = true := beq_iff_eq.mpr c6
    have c6b1 : ((t240.length : Int) != 3) = false := bne_eq_false_iff_eq.mpr c6
    clear c6
    by_cases c7 : 0 < (t240.length : Int)
    · rw [if_pos c7] at H
      have c7b0 : decide (0 < (t240.length : Int)) = true := decide_eq_true c7
      have c7b1 : decide (0 < t240.length) = true := decide_eq_true (by omega)
      clear c7
      obtain ⟨bq8, hbq8⟩ : ∃ b_ : Bool, b_ = ((rd_T39 t240 0).f1) := ⟨_, rfl⟩
      replace H : (if (bq8 = true) then (some false) else (if 2 < (t240.length : Int) then (if ((rd_T39 t240 2).f2).toList = ([52] : List UInt8) then (if t243 = 0 then ((cambiumref04_Same.f k y237 t244).bind fun t258 => (if t258 = true then (if t245 = 0 then (if t248.toList = ([52] : List UInt8) then (if t249 = 0 then (if (t250.length : Int) = 1 then (if t251 = 0 then (some (t255 == 5)) else (some false)) else (some false)) else (some false)) else (some false)) else (some false)) else (some false))) else (some false)) else (some false)) else (none))) = some r := by rw [← hbq8] at H; exact H
      have Nbq8 := Aside0.mk hbq8
      clear hbq8
      by_cases c9 : (bq8 = true)
      · subst c9
        have H1 : (some false) = some r := by rw [if_pos rfl] at H; exact H
        clear H
        have H := H1
        clear H1
        exact absurd ((Option.some.inj H).trans HT_.out) (by simp)
      · replace c9 := Bool.eq_false_iff.mpr c9
        subst c9
        have H1 : (if 2 < (t240.length : Int) then (if ((rd_T39 t240 2).f2).toList = ([52] : List UInt8) then (if t243 = 0 then ((cambiumref04_Same.f k y237 t244).bind fun t258 => (if t258 = true then (if t245 = 0 then (if t248.toList = ([52] : List UInt8) then (if t249 = 0 then (if (t250.length : Int) = 1 then (if t251 = 0 then (some (t255 == 5)) else (some false)) else (some false)) else (some false)) else (some false)) else (some false)) else (some false))) else (some false)) else (some false)) else (none)) = some r := by rw [if_neg (show ¬ (false = true) by decide)] at H; exact H
        clear H
        have H := H1
        clear H1
        by_cases c10 : 2 < (t240.length : Int)
        · rw [if_pos c10] at H
          have c10b0 : decide (2 < (t240.length : Int)) = true := decide_eq_true c10
          have c10b1 : decide (2 < t240.length) = true := decide_eq_true (by omega)
          clear c10
          by_cases c11 : ((rd_T39 t240 2).f2).toList = ([52] : List UInt8)
          · rw [if_pos c11] at H
            have c11b0 : (((rd_T39 t240 2).f2).toList == ([52] : List UInt8)) = true := beq_iff_eq.mpr c11
            have c11b1 : (((rd_T39 t240 2).f2).toList != ([52] : List UInt8)) = false := bne_eq_false_iff_eq.mpr c11
            clear c11
            by_cases c12 : t243 = 0
            · rw [if_pos c12] at H
              have c12b0 : (t243 == 0) = true := beq_iff_eq.mpr c12
              have c12b1 : (t243 != 0) = false := bne_eq_false_iff_eq.mpr c12
              clear c12
              replace H := Option.bind_eq_some_iff.mp H
              obtain ⟨t258, A130, H⟩ := H
              replace H : (if t258 = true then (if t245 = 0 then (if t248.toList = ([52] : List UInt8) then (if t249 = 0 then (if (t250.length : Int) = 1 then (if t251 = 0 then (some (t255 == 5)) else (some false)) else (some false)) else (some false)) else (some false)) else (some false)) else (some false)) = some r := H
              have A13 := Aside0.mk A130
              clear A130
              by_cases c14 : t258 = true
              · subst c14
                have H1 : (if t245 = 0 then (if t248.toList = ([52] : List UInt8) then (if t249 = 0 then (if (t250.length : Int) = 1 then (if t251 = 0 then (some (t255 == 5)) else (some false)) else (some false)) else (some false)) else (some false)) else (some false)) = some r := by rw [if_pos rfl] at H; exact H
                clear H
                have H := H1
                clear H1
                by_cases c15 : t245 = 0
                · rw [if_pos c15] at H
                  have c15b0 : (t245 == 0) = true := beq_iff_eq.mpr c15
                  have c15b1 : (t245 != 0) = false := bne_eq_false_iff_eq.mpr c15
                  clear c15
                  by_cases c16 : t248.toList = ([52] : List UInt8)
                  · rw [if_pos c16] at H
                    have c16b0 : (t248.toList == ([52] : List UInt8)) = true := beq_iff_eq.mpr c16
                    have c16b1 : (t248.toList != ([52] : List UInt8)) = false := bne_eq_false_iff_eq.mpr c16
                    clear c16
                    by_cases c17 : t249 = 0
                    · rw [if_pos c17] at H
                      have c17b0 : (t249 == 0) = true := beq_iff_eq.mpr c17
                      have c17b1 : (t249 != 0) = false := bne_eq_false_iff_eq.mpr c17
                      clear c17
                      by_cases c18 : (t250.length : Int) = 1
                      · rw [if_pos c18] at H
                        have c18b0 : ((t250.length : Int) == 1) = true := beq_iff_eq.mpr c18
                        have c18b1 : ((t250.length : Int) != 1) = false := bne_eq_false_iff_eq.mpr c18
                        clear c18
                        by_cases c19 : t251 = 0
                        · rw [if_pos c19] at H
                          have c19b0 : (t251 == 0) = true := beq_iff_eq.mpr c19
                          have c19b1 : (t251 != 0) = false := bne_eq_false_iff_eq.mpr c19
                          clear c19
                          obtain rfl := Option.some.inj H
                          go_enter Try.func4, Try.ntmps4
                          go_wp2_with (first | ((with_reducible refine gate_dst (N := 15) rfl ?_); (try (refine gate_guard (by rfl) ?_; dsimp only)); refine Kd.R_lit k31 _ 31 ?hg (N := 15) ?hd (xs := ([(⟨(⟨#[97]⟩ : ByteArray), (⟨#[49]⟩ : ByteArray)⟩ : S31), (⟨(⟨#[98]⟩ : ByteArray), (⟨#[50]⟩ : ByteArray)⟩ : S31)] : List (S31))) (inner := [.string (⟨#[97]⟩ : ByteArray), .string (⟨#[49]⟩ : ByteArray), .string (⟨#[98]⟩ : ByteArray), .string (⟨#[50]⟩ : ByteArray)]) (ok := fun _ => True) (okp := fun _ => True) ?hr ?hp (fun _ hk => hk) trivial (Below.refl _ _) (Nat.le_refl _) (by simp) ?_; (case hd => rfl); (case hg => rfl); (case hr => first | (go_simp; done) | (go_simp; rfl)); (case hp => exact (Reps.c2 (show Kd.M k31 _ _ _ (⟨(⟨#[97]⟩ : ByteArray), (⟨#[49]⟩ : ByteArray)⟩ : S31) [.string (⟨#[97]⟩ : ByteArray), .string (⟨#[49]⟩ : ByteArray)] from (k31_mkM _ _ _ (⟨(⟨#[97]⟩ : ByteArray), (⟨#[49]⟩ : ByteArray)⟩ : S31) )) (Reps.c2 (show Kd.M k31 _ _ _ (⟨(⟨#[98]⟩ : ByteArray), (⟨#[50]⟩ : ByteArray)⟩ : S31) [.string (⟨#[98]⟩ : ByteArray), .string (⟨#[50]⟩ : ByteArray)] from (k31_mkM _ _ _ (⟨(⟨#[98]⟩ : ByteArray), (⟨#[50]⟩ : ByteArray)⟩ : S31) )) (Reps.none _ _)))); intro v235 w20 ho21 hb hg_ hnew_; clear hg_ hnew_; (first | rw [← Ny234.out] at ho21 | (simp only [Int.reduceToNat] at ho21; rw [← Ny234.out] at ho21)); have n0_ := Aside0.mk (Kd.R_lower ho21 (below_size (by repeat (first | (with_reducible first | exact HB.out | apply below_alloc | apply pw_below_drewN | apply below_drew1) | exact HB.out)))); have n1_ := Aside0.mk (below_step (by repeat (first | (with_reducible first | exact HB.out | apply below_alloc | apply pw_below_drewN | apply below_drew1) | exact HB.out)) hb); clear HB; have HO236 := n0_; have HB := n1_; clear n0_ n1_; clear hb ho21) | ((with_reducible refine gate_dst (N := 18) rfl ?_); (try (refine gate_guard (by rfl) ?_; dsimp only)); refine Kd.R_lit k31 _ 31 ?hg (N := 18) ?hd (xs := ([(⟨(⟨#[98]⟩ : ByteArray), (⟨#[51]⟩ : ByteArray)⟩ : S31), (⟨(⟨#[99]⟩ : ByteArray), (⟨#[52]⟩ : ByteArray)⟩ : S31)] : List (S31))) (inner := [.string (⟨#[98]⟩ : ByteArray), .string (⟨#[51]⟩ : ByteArray), .string (⟨#[99]⟩ : ByteArray), .string (⟨#[52]⟩ : ByteArray)]) (ok := fun _ => True) (okp := fun _ => True) ?hr ?hp (fun _ hk => hk) trivial (Below.refl _ _) (Nat.le_refl _) (by simp) ?_; (case hd => rfl); (case hg => rfl); (case hr => first | (go_simp; done) | (go_simp; rfl)); (case hp => exact (Reps.c2 (show Kd.M k31 _ _ _ (⟨(⟨#[98]⟩ : ByteArray), (⟨#[51]⟩ : ByteArray)⟩ : S31) [.string (⟨#[98]⟩ : ByteArray), .string (⟨#[51]⟩ : ByteArray)] from (k31_mkM _ _ _ (⟨(⟨#[98]⟩ : ByteArray), (⟨#[51]⟩ : ByteArray)⟩ : S31) )) (Reps.c2 (show Kd.M k31 _ _ _ (⟨(⟨#[99]⟩ : ByteArray), (⟨#[52]⟩ : ByteArray)⟩ : S31) [.string (⟨#[99]⟩ : ByteArray), .string (⟨#[52]⟩ : ByteArray)] from (k31_mkM _ _ _ (⟨(⟨#[99]⟩ : ByteArray), (⟨#[52]⟩ : ByteArray)⟩ : S31) )) (Reps.none _ _)))); intro v238 w22 ho23 hb hg_ hnew_; clear hg_ hnew_; (first | rw [← Ny237.out] at ho23 | (simp only [Int.reduceToNat] at ho23; rw [← Ny237.out] at ho23)); have n0_ := Aside0.mk (Kd.R_elder' (by (with_reducible repeat (first | apply Kd.R_alloc | apply Kd.R_drewN | apply Kd.R_drew)); exact HO236.out) (Kd.R_base ho23) hb); have n1_ := Aside0.mk (Kd.R_lower (Kd.R_new' ho23 (Kd.R_lt (by (with_reducible repeat (first | apply Kd.R_alloc | apply Kd.R_drewN | apply Kd.R_drew)); exact HO236.out))) (below_size (by repeat (first | (with_reducible first | exact HB.out | apply below_alloc | apply pw_below_drewN | apply below_drew1) | exact HB.out)))); have n2_ := Aside0.mk (below_step (by repeat (first | (with_reducible first | exact HB.out | apply below_alloc | apply pw_below_drewN | apply below_drew1) | exact HB.out)) hb); clear HO236; clear HB; have HO236 := n0_; have HO239 := n1_; have HB := n2_; clear n0_ n1_ n2_; clear hb ho23; obtain ⟨Ao24, co24, eo24⟩ := Kd.R_slice HO236.out; subst eo24; obtain ⟨Ao25, co25, eo25⟩ := Kd.R_slice HO239.out; subst eo25) | ((with_reducible refine gate_callee (f := 8) rfl ?_); refine goesL_ (some 22) rfl rfl Try.func8 (by kernel_rfl) rfl #[.slice Ao24 y234.length co24, .slice Ao25 y237.length co25] rfl (by (try simp only [List.map_toArray, List.map_cons, List.map_nil]); first | done | rfl | (simp only [List.length_drop, List.length_take]; rfl)) ?_; (with_reducible refine (item_Diff.calls k (fun k_ => some k_ = (.slice Ao24 y234.length co24 : Value).ownBlock) _ _ y234 (fun k_ => some k_ = (.slice Ao25 y237.length co25 : Value).ownBlock) _ _ y237 t240 t243 _ ?side1 ?side2 A1.out).mono ?_); (case side1 => exact Kd.R_V (Kd.R_tight rfl (HO236.out))); (case side2 => exact Kd.R_V (Kd.R_tight rfl (HO239.out))); rintro e w26 ⟨v241, rfl, ho0, hb⟩; refine ⟨_, rfl, ?_⟩; have n0_ := Aside0.mk (Kd.R_below (by (with_reducible repeat (first | apply Kd.R_alloc | apply Kd.R_drewN | apply Kd.R_drew)); exact HO236.out) hb); have n1_ := Aside0.mk (Kd.R_below (by (with_reducible repeat (first | apply Kd.R_alloc | apply Kd.R_drewN | apply Kd.R_drew)); exact HO239.out) hb); have n2_ := Aside0.mk (Kd.R_lower (Kd.R_mono (ok' := fun k_ => True) ho0 (fun _ hk_ => trivial)) (below_size (by repeat (first | (with_reducible first | exact HB.out | apply below_alloc | apply pw_below_drewN | apply below_drew1) | exact HB.out)))); have n3_ := Aside0.mk (below_step (by repeat (first | (with_reducible first | exact HB.out | apply below_alloc | apply pw_below_drewN | apply below_drew1) | exact HB.out)) hb); clear HO236; clear HO239; clear HB; have HO236 := n0_; have HO239 := n1_; have HO242 := n2_; have HB := n3_; clear n0_ n1_ n2_ n3_; (try clear hb); (try clear hb2); (try clear hk); (try clear hi); (try clear ho0); obtain ⟨Ao27, co27, eo27⟩ := Kd.R_slice HO242.out; subst eo27) | ((with_reducible refine gate_callee (f := 5) rfl ?_); refine goesL_ (some 28) rfl rfl Try.func5 (by kernel_rfl) rfl #[.slice Ao24 y234.length co24, .slice Ao27 t240.length co27] rfl (by (try simp only [List.map_toArray, List.map_cons, List.map_nil]); first | done | rfl | (simp only [List.length_drop, List.length_take]; rfl)) ?_; (with_reducible refine (item_Apply.calls k _ _ y234 _ _ t240 t244 t245 _ ?side1 ?side2 ?side3 ?side4 A2.out).mono ?_); (case side1 => repeat (first | exact (Kd.R_reads' HO236.out).2.2 | (with_reducible refine Kd.C_alloc ?_ _) | (with_reducible refine Kd.C_drewN ?_ _) | (with_reducible refine Kd.C_drew ?_))); (case side2 => exact (Kd.R_reads' HO236.out).2.1); (case side3 => repeat (first | exact (Kd.R_reads' HO242.out).2.2 | (with_reducible refine Kd.C_alloc ?_ _) | (with_reducible refine Kd.C_drewN ?_ _) | (with_reducible refine Kd.C_drew ?_))); (case side4 => exact (Kd.R_reads' HO242.out).2.1); rintro e w28 ⟨v246, rfl, ho0, hb⟩; refine ⟨_, rfl, ?_⟩; have n0_ := Aside0.mk (Kd.R_elder' (by (with_reducible repeat (first | apply Kd.R_alloc | apply Kd.R_drewN | apply Kd.R_drew)); exact HO236.out) (Kd.R_base ho0) hb); have n1_ := Aside0.mk (Kd.R_elder' (by (with_reducible repeat (first | apply Kd.R_alloc | apply Kd.R_drewN | apply Kd.R_drew)); exact HO239.out) (Kd.R_base ho0) hb); have n2_ := Aside0.mk (Kd.R_below (by (with_reducible repeat (first | apply Kd.R_alloc | apply Kd.R_drewN | apply Kd.R_drew)); exact HO242.out) hb); have n3_ := Aside0.mk (Kd.R_lower (Kd.R_new' (Kd.R_new' ho0 (Kd.R_lt (by (with_reducible repeat (first | apply Kd.R_alloc | apply Kd.R_drewN | apply Kd.R_drew)); exact HO236.out))) (Kd.R_lt (by (with_reducible repeat (first | apply Kd.R_alloc | apply Kd.R_drewN | apply Kd.R_drew)); exact HO239.out))) (below_size (by repeat (first | (with_reducible first | exact HB.out | apply below_alloc | apply pw_below_drewN | apply below_drew1) | exact HB.out)))); have n4_ := Aside0.mk (below_step (by repeat (first | (with_reducible first | exact HB.out | apply below_alloc | apply pw_below_drewN | apply below_drew1) | exact HB.out)) hb); clear HO236; clear HO239; clear HO242; clear HB; have HO236 := n0_; have HO239 := n1_; have HO242 := n2_; have HO247 := n3_; have HB := n4_; clear n0_ n1_ n2_ n3_ n4_; (try clear hb); (try clear hb2); (try clear hk); (try clear hi); (try clear ho0); obtain ⟨Ao29, co29, eo29⟩ := Kd.R_slice HO247.out; subst eo29) | ((with_reducible refine gate_callee (f := 9) rfl ?_); refine goesL_ (some 33) rfl rfl Try.func9 (by kernel_rfl) rfl #[.slice Ao29 t244.length co29, .string (⟨#[99]⟩ : ByteArray)] rfl (by (try simp only [List.map_toArray, List.map_cons, List.map_nil]); first | done | rfl | (simp only [List.length_drop, List.length_take]; rfl)) ?_; (with_reducible refine (item_Get.calls k _ _ t244 (⟨#[99]⟩ : ByteArray) t248 t249 _ ?side1 ?side2 A3.out).mono ?_); (case side1 => repeat (first | exact (Kd.R_reads' HO247.out).2.2 | (with_reducible refine Kd.C_alloc ?_ _) | (with_reducible refine Kd.C_drewN ?_ _) | (with_reducible refine Kd.C_drew ?_))); (case side2 => exact (Kd.R_reads' HO247.out).2.1); rintro e w30 ⟨rfl, hb⟩; refine ⟨_, rfl, ?_⟩; have n0_ := Aside0.mk (Kd.R_below (by (with_reducible repeat (first | apply Kd.R_alloc | apply Kd.R_drewN | apply Kd.R_drew)); exact HO236.out) hb); have n1_ := Aside0.mk (Kd.R_below (by (with_reducible repeat (first | apply Kd.R_alloc | apply Kd.R_drewN | apply Kd.R_drew)); exact HO239.out) hb); have n2_ := Aside0.mk (Kd.R_below (by (with_reducible repeat (first | apply Kd.R_alloc | apply Kd.R_drewN | apply Kd.R_drew)); exact HO242.out) hb); have n3_ := Aside0.mk (Kd.R_below (by (with_reducible repeat (first | apply Kd.R_alloc | apply Kd.R_drewN | apply Kd.R_drew)); exact HO247.out) hb); have n4_ := Aside0.mk (below_step (by repeat (first | (with_reducible first | exact HB.out | apply below_alloc | apply pw_below_drewN | apply below_drew1) | exact HB.out)) hb); clear HO236; clear HO239; clear HO242; clear HO247; clear HB; have HO236 := n0_; have HO239 := n1_; have HO242 := n2_; have HO247 := n3_; have HB := n4_; clear n0_ n1_ n2_ n3_ n4_; (try clear hb); (try clear hb2); (try clear hk); (try clear hi)) | ((with_reducible refine gate_callee (f := 6) rfl ?_); refine goesL_ (some 38) rfl rfl Try.func6 (by kernel_rfl) rfl #[.slice Ao24 y234.length co24, .string (⟨#[98]⟩ : ByteArray)] rfl (by (try simp only [List.map_toArray, List.map_cons, List.map_nil]); first | done | rfl | (simp only [List.length_drop, List.length_take]; rfl)) ?_; (with_reducible refine (item_Under.calls k _ _ y234 (⟨#[98]⟩ : ByteArray) t250 t251 _ ?side1 ?side2 A4.out).mono ?_); (case side1 => repeat (first | exact (Kd.R_reads' HO236.out).2.2 | (with_reducible refine Kd.C_alloc ?_ _) | (with_reducible refine Kd.C_drewN ?_ _) | (with_reducible refine Kd.C_drew ?_))); (case side2 => exact (Kd.R_reads' HO236.out).2.1); rintro e w31 ⟨v252, rfl, ho0, hb⟩; refine ⟨_, rfl, ?_⟩; have n0_ := Aside0.mk (Kd.R_elder' (by (with_reducible repeat (first | apply Kd.R_alloc | apply Kd.R_drewN | apply Kd.R_drew)); exact HO236.out) (Kd.R_base ho0) hb); have n1_ := Aside0.mk (Kd.R_elder' (by (with_reducible repeat (first | apply Kd.R_alloc | apply Kd.R_drewN | apply Kd.R_drew)); exact HO239.out) (Kd.R_base ho0) hb); have n2_ := Aside0.mk (Kd.R_below (by (with_reducible repeat (first | apply Kd.R_alloc | apply Kd.R_drewN | apply Kd.R_drew)); exact HO242.out) hb); have n3_ := Aside0.mk (Kd.R_elder' (by (with_reducible repeat (first | apply Kd.R_alloc | apply Kd.R_drewN | apply Kd.R_drew)); exact HO247.out) (Kd.R_base ho0) hb); have n4_ := Aside0.mk (Kd.R_lower (Kd.R_new' (Kd.R_new' (Kd.R_new' ho0 (Kd.R_lt (by (with_reducible repeat (first | apply Kd.R_alloc | apply Kd.R_drewN | apply Kd.R_drew)); exact HO236.out))) (Kd.R_lt (by (with_reducible repeat (first | apply Kd.R_alloc | apply Kd.R_drewN | apply Kd.R_drew)); exact HO239.out))) (Kd.R_lt (by (with_reducible repeat (first | apply Kd.R_alloc | apply Kd.R_drewN | apply Kd.R_drew)); exact HO247.out))) (below_size (by repeat (first | (with_reducible first | exact HB.out | apply below_alloc | apply pw_below_drewN | apply below_drew1) | exact HB.out)))); have n5_ := Aside0.mk (below_step (by repeat (first | (with_reducible first | exact HB.out | apply below_alloc | apply pw_below_drewN | apply below_drew1) | exact HB.out)) hb); clear HO236; clear HO239; clear HO242; clear HO247; clear HB; have HO236 := n0_; have HO239 := n1_; have HO242 := n2_; have HO247 := n3_; have HO253 := n4_; have HB := n5_; clear n0_ n1_ n2_ n3_ n4_ n5_; (try clear hb); (try clear hb2); (try clear hk); (try clear hi); (try clear ho0)) | ((with_reducible refine gate_callee (f := 9) rfl ?_); refine goesL_ (some 43) rfl rfl Try.func9 (by kernel_rfl) rfl #[.slice Ao24 y234.length co24, .string (⟨#[99]⟩ : ByteArray)] rfl (by (try simp only [List.map_toArray, List.map_cons, List.map_nil]); first | done | rfl | (simp only [List.length_drop, List.length_take]; rfl)) ?_; (with_reducible refine (item_Get.calls k _ _ y234 (⟨#[99]⟩ : ByteArray) t254 t255 _ ?side1 ?side2 A5.out).mono ?_); (case side1 => repeat (first | exact (Kd.R_reads' HO236.out).2.2 | (with_reducible refine Kd.C_alloc ?_ _) | (with_reducible refine Kd.C_drewN ?_ _) | (with_reducible refine Kd.C_drew ?_))); (case side2 => exact (Kd.R_reads' HO236.out).2.1); rintro e w32 ⟨rfl, hb⟩; refine ⟨_, rfl, ?_⟩; have n0_ := Aside0.mk (Kd.R_below (by (with_reducible repeat (first | apply Kd.R_alloc | apply Kd.R_drewN | apply Kd.R_drew)); exact HO236.out) hb); have n1_ := Aside0.mk (Kd.R_below (by (with_reducible repeat (first | apply Kd.R_alloc | apply Kd.R_drewN | apply Kd.R_drew)); exact HO239.out) hb); have n2_ := Aside0.mk (Kd.R_below (by (with_reducible repeat (first | apply Kd.R_alloc | apply Kd.R_drewN | apply Kd.R_drew)); exact HO242.out) hb); have n3_ := Aside0.mk (Kd.R_below (by (with_reducible repeat (first | apply Kd.R_alloc | apply Kd.R_drewN | apply Kd.R_drew)); exact HO247.out) hb); have n4_ := Aside0.mk (Kd.R_below (by (with_reducible repeat (first | apply Kd.R_alloc | apply Kd.R_drewN | apply Kd.R_drew)); exact HO253.out) hb); have n5_ := Aside0.mk (below_step (by repeat (first | (with_reducible first | exact HB.out | apply below_alloc | apply pw_below_drewN | apply below_drew1) | exact HB.out)) hb); clear HO236; clear HO239; clear HO242; clear HO247; clear HO253; clear HB; have HO236 := n0_; have HO239 := n1_; have HO242 := n2_; have HO247 := n3_; have HO253 := n4_; have HB := n5_; clear n0_ n1_ n2_ n3_ n4_ n5_; (try clear hb); (try clear hb2); (try clear hk); (try clear hi); have p256 : 0 ≤ (0 : Int) := (by omega); have q256 : 0 < (t240.length : Int) := of_decide_eq_true (by first | (with_reducible assumption) | assumption); obtain ⟨ad256, e256, hx256_0, hx256_1, hx256_2⟩ := at_T39 (Kd.R_reads' HO242.out).2.2 0 p256 q256; (try rw [← Nbq8.out] at hx256_1); cases e256; have qi256 : (0 < t240.length) = True := eq_true (by omega); (try rw [show ((0 : Int)).toNat = 0 from rfl] at hx256_0); (try rw [show 0 * 3 = 0 from rfl] at hx256_0); (try rw [Addr.add_zero'] at hx256_0); (try rw [show ((0 : Int)).toNat = 0 from rfl] at hx256_1); (try rw [show 0 * 3 = 0 from rfl] at hx256_1); (try rw [Addr.add_zero'] at hx256_1); (try rw [show ((0 : Int)).toNat = 0 from rfl] at hx256_2); (try rw [show 0 * 3 = 0 from rfl] at hx256_2); (try rw [Addr.add_zero'] at hx256_2); replace p256 := eq_true p256; replace q256 := eq_true q256; have p257 : 0 ≤ (2 : Int) := (by omega); have q257 : 2 < (t240.length : Int) := of_decide_eq_true (by first | (with_reducible assumption) | assumption); obtain ⟨ad257, e257, hx257_0, hx257_1, hx257_2⟩ := at_T39 (Kd.R_reads' HO242.out).2.2 2 p257 q257; (try rw [← Nbq8.out] at hx257_1); obtain rfl : ad256 = ad257 := (by injection e257); (try simp only [show (2 : Int).toNat = 2 from rfl, Nat.reduceMul, Nat.reduceEqDiff, Go.Addr.add, ↓reduceIte] at hx257_0); (try simp only [show (2 : Int).toNat = 2 from rfl, Nat.reduceMul, Nat.reduceEqDiff, Go.Addr.add, ↓reduceIte] at hx257_1); (try simp only [show (2 : Int).toNat = 2 from rfl, Nat.reduceMul, Nat.reduceEqDiff, Go.Addr.add, ↓reduceIte] at hx257_2); have qi257 : (2 < t240.length) = True := eq_true (by omega); (try rw [show ((2 : Int)).toNat = 2 from rfl] at hx257_0); (try rw [show 2 * 3 = 6 from rfl] at hx257_0); (try rw [show ((2 : Int)).toNat = 2 from rfl] at hx257_1); (try rw [show 2 * 3 = 6 from rfl] at hx257_1); (try rw [show ((2 : Int)).toNat = 2 from rfl] at hx257_2); (try rw [show 2 * 3 = 6 from rfl] at hx257_2); replace p257 := eq_true p257; replace q257 := eq_true q257) | (go_at_call 7; (with_reducible refine (cambiumref04_Same.calls k _ _ y237 _ _ t244 true _ ?side1 ?side2 ?side3 ?side4 A13.out).mono ?_); (case side1 => repeat (first | exact (Kd.R_reads' HO239.out).2.2 | (with_reducible refine Kd.C_alloc ?_ _) | (with_reducible refine Kd.C_drewN ?_ _) | (with_reducible refine Kd.C_drew ?_))); (case side2 => exact (Kd.R_reads' HO239.out).2.1); (case side3 => repeat (first | exact (Kd.R_reads' HO247.out).2.2 | (with_reducible refine Kd.C_alloc ?_ _) | (with_reducible refine Kd.C_drewN ?_ _) | (with_reducible refine Kd.C_drew ?_))); (case side4 => exact (Kd.R_reads' HO247.out).2.1); rintro e w' ⟨rfl, ⟨nd, rfl⟩⟩; obtain ⟨Ao33, co33, eo33⟩ := Kd.R_slice HO253.out; subst eo33))
                          go_ret
                          exact ⟨by first | rfl | (simp [errW_none, errW_some] <;> rfl) | (simp [*, errW_none, errW_some] <;> rfl), by repeat (first | (with_reducible first | exact HB.out | apply below_alloc | apply pw_below_drewN | apply below_drew1) | exact HB.out)⟩
                        · rw [if_neg c19] at H
                          have c19b0 : (t251 == 0) = false := beq_eq_false_iff_ne.mpr c19
                          have c19b1 : (t251 != 0) = true := bne_iff_ne.mpr c19
                          exact absurd ((Option.some.inj H).trans HT_.out) (by simp)
                      · rw [if_neg c18] at H
                        have c18b0 : ((t250.length : Int) == 1) = false := beq_eq_false_iff_ne.mpr c18
                        have c18b1 : ((t250.length : Int) != 1) = true := bne_iff_ne.mpr c18
                        exact absurd ((Option.some.inj H).trans HT_.out) (by simp)
                    · rw [if_neg c17] at H
                      have c17b0 : (t249 == 0) = false := beq_eq_false_iff_ne.mpr c17
                      have c17b1 : (t249 != 0) = true := bne_iff_ne.mpr c17
                      exact absurd ((Option.some.inj H).trans HT_.out) (by simp)
                  · rw [if_neg c16] at H
                    have c16b0 : (t248.toList == ([52] : List UInt8)) = false := beq_eq_false_iff_ne.mpr c16
                    have c16b1 : (t248.toList != ([52] : List UInt8)) = true := bne_iff_ne.mpr c16
                    exact absurd ((Option.some.inj H).trans HT_.out) (by simp)
                · rw [if_neg c15] at H
                  have c15b0 : (t245 == 0) = false := beq_eq_false_iff_ne.mpr c15
                  have c15b1 : (t245 != 0) = true := bne_iff_ne.mpr c15
                  exact absurd ((Option.some.inj H).trans HT_.out) (by simp)
              · replace c14 := Bool.eq_false_iff.mpr c14
                subst c14
                have H1 : (some false) = some r := by rw [if_neg (show ¬ (false = true) by decide)] at H; exact H
                clear H
                have H := H1
                clear H1
                exact absurd ((Option.some.inj H).trans HT_.out) (by simp)
            · rw [if_neg c12] at H
              have c12b0 : (t243 == 0) = false := beq_eq_false_iff_ne.mpr c12
              have c12b1 : (t243 != 0) = true := bne_iff_ne.mpr c12
              exact absurd ((Option.some.inj H).trans HT_.out) (by simp)
          · rw [if_neg c11] at H
            have c11b0 : (((rd_T39 t240 2).f2).toList == ([52] : List UInt8)) = false := beq_eq_false_iff_ne.mpr c11
            have c11b1 : (((rd_T39 t240 2).f2).toList != ([52] : List UInt8)) = true := bne_iff_ne.mpr c11
            exact absurd ((Option.some.inj H).trans HT_.out) (by simp)
        · rw [if_neg c10] at H
          exact absurd H (by simp)
    · rw [if_neg c7] at H
      exact absurd H (by simp)
  · rw [if_neg c6] at H
    have c6b0 : ((t240.length : Int) == 3) = false := beq_eq_false_iff_ne.mpr c6
    have c6b1 : ((t240.length : Int) != 3) = true := bne_iff_ne.mpr c6
    exact absurd ((Option.some.inj H).trans HT_.out) (by simp)

end Go.Proofs.Ytfijciielmllbaa.Z
end

section
/- 'lives' of the statements on items is true; what the laws need of lists besides. -/
namespace Go.Proofs.Ytfijciielmllbaa.Z
open Go.RowKit Go.Proofs.YtfijciielmllbaaW.PrintWords Go.Proofs.YtfijciielmllbaaW.PrintLast
set_option linter.unusedVariables false
set_option linter.unusedSimpArgs false
theorem lives_f : Ev (fun k => cambiumlaw04_lives.f k) true := by
  have t0 : (⟨#[]⟩ : ByteArray).toList = [] := by rw [ByteArray.toList_eq]
  have ta : (⟨#[97]⟩ : ByteArray).toList = [97] := by rw [ByteArray.toList_eq]
  have tb : (⟨#[98]⟩ : ByteArray).toList = [98] := by rw [ByteArray.toList_eq]
  have tc : (⟨#[99]⟩ : ByteArray).toList = [99] := by rw [ByteArray.toList_eq]
  have t2 : (⟨#[50]⟩ : ByteArray).toList = [50] := by rw [ByteArray.toList_eq]
  have t3 : (⟨#[51]⟩ : ByteArray).toList = [51] := by rw [ByteArray.toList_eq]
  have t4 : (⟨#[52]⟩ : ByteArray).toList = [52] := by rw [ByteArray.toList_eq]
  have sz : ∀ x : UInt8, (⟨#[x]⟩ : ByteArray).size = 1 := fun _ => rfl
  have s0 : (⟨#[]⟩ : ByteArray).size = 0 := rfl
  have lab : Op.bytesLess [97] [98] = true := by decide
  have lac : Op.bytesLess [97] [99] = true := by decide
  have lbc : Op.bytesLess [98] [99] = true := by decide
  have oA : okL [(⟨⟨#[97]⟩, ⟨#[49]⟩⟩ : It), ⟨⟨#[98]⟩, ⟨#[50]⟩⟩] = true := by simp [okL, okF, okI, okK, key, ta, tb, sz, lab]
  have oB : okL [(⟨⟨#[98]⟩, ⟨#[51]⟩⟩ : It), ⟨⟨#[99]⟩, ⟨#[52]⟩⟩] = true := by simp [okL, okF, okI, okK, key, tc, tb, sz, lbc]
  have hd : diffS [(⟨⟨#[97]⟩, ⟨#[49]⟩⟩ : It), ⟨⟨#[98]⟩, ⟨#[50]⟩⟩] [⟨⟨#[98]⟩, ⟨#[51]⟩⟩, ⟨⟨#[99]⟩, ⟨#[52]⟩⟩] = ([⟨⟨#[97]⟩, false, ⟨#[]⟩⟩, ⟨⟨#[98]⟩, true, ⟨#[51]⟩⟩, ⟨⟨#[99]⟩, true, ⟨#[52]⟩⟩], 0) := by
    unfold diffS
    rw [oA, oB, if_pos (show (true && true) = true from rfl)]
    simp [diffL, key, ta, tb, tc, t2, t3, lab, bl_irrefl, dl, ad]
  have ha : aplS [(⟨⟨#[97]⟩, ⟨#[49]⟩⟩ : It), ⟨⟨#[98]⟩, ⟨#[50]⟩⟩] [⟨⟨#[97]⟩, false, ⟨#[]⟩⟩, ⟨⟨#[98]⟩, true, ⟨#[51]⟩⟩, ⟨⟨#[99]⟩, true, ⟨#[52]⟩⟩] = ([⟨⟨#[98]⟩, ⟨#[51]⟩⟩, ⟨⟨#[99]⟩, ⟨#[52]⟩⟩], 0) := by
    have oC : okC [(⟨⟨#[97]⟩, false, ⟨#[]⟩⟩ : Ch), ⟨⟨#[98]⟩, true, ⟨#[51]⟩⟩, ⟨⟨#[99]⟩, true, ⟨#[52]⟩⟩] = true := by simp [okC, okc, okK, ta, tb, tc, t0, sz, s0]
    unfold aplS
    rw [oA, oC, if_pos (show (true && true) = true from rfl)]
    simp [apl, put, lo, up, hi, new_, key, ck, ta, tb, tc, lab, lac, lbc, bl_irrefl, bl_asymm lab, List.takeWhile, List.dropWhile]
  have hg : getS [(⟨⟨#[98]⟩, ⟨#[51]⟩⟩ : It), ⟨⟨#[99]⟩, ⟨#[52]⟩⟩] (⟨#[99]⟩ : ByteArray).toList = (⟨#[52]⟩, 0) := by
    unfold getS
    rw [oB, if_pos rfl]
    simp [look, key, tb, tc]
  have hu : underS [(⟨⟨#[97]⟩, ⟨#[49]⟩⟩ : It), ⟨⟨#[98]⟩, ⟨#[50]⟩⟩] (⟨#[98]⟩ : ByteArray).toList = ([⟨⟨#[98]⟩, ⟨#[50]⟩⟩], 0) := by
    unfold underS
    rw [oA, if_pos rfl]
    simp [hp, key, ta, tb, List.filter]
    rfl
  have hn : getS [(⟨⟨#[97]⟩, ⟨#[49]⟩⟩ : It), ⟨⟨#[98]⟩, ⟨#[50]⟩⟩] (⟨#[99]⟩ : ByteArray).toList = (⟨#[]⟩, 5) := by
    unfold getS
    rw [oA, if_pos rfl]
    simp [look, key, ta, tb, tc]
  unfold cambiumlaw04_lives.f
  refine Ev.bindc rfl (Ev.bindc rfl (Ev.bind (Ev.val (itDiff _ _ (by decide)) hd) (Ev.bind (Ev.val (itApply _ _ (by decide)) ha) (Ev.bind (Ev.val (itGet _ (by decide) _) hg) (Ev.bind (Ev.val (itUnder _ (by decide) _) hu) (Ev.bind (Ev.val (itGet _ (by decide) _) hn) ?_))))))
  refine Ev.ifp rfl (Ev.ifp (by decide) (Ev.ifn (by show ¬ (false = true); decide) (Ev.ifp (by decide) (Ev.ifp (show (⟨#[52]⟩ : ByteArray).toList = [52] from t4) (Ev.ifp rfl (Ev.bind (same_refl _ (by decide)) (Ev.ifp rfl (Ev.ifp rfl (Ev.ifp t4 (Ev.ifp rfl (Ev.ifp rfl (Ev.ifp rfl (Ev.const rfl)))))))))))))
theorem okC_parts (cs : List Ch) (n : Nat) : okC cs = (okC (cs.take n) && okC (cs.drop n)) := by
  unfold okC
  conv => lhs; rw [← List.take_append_drop n cs]
  rw [List.all_append]
theorem apl_parts (l : List It) (cs : List Ch) (n : Nat) : apl l cs = apl (apl l (cs.take n)) (cs.drop n) := by
  unfold apl
  rw [← List.foldl_append, List.take_append_drop]
theorem put_again {l : List It} (ha : Asc l) (c : Ch) : put (put l c) c = put l c := by
  have h1 : put l c = lo l (ck c) ++ new_ c ++ hi l (ck c) := rfl
  rw [h1]
  exact put_parts lo_mem new_key (hi_gt ha)
theorem look_mem {l : List It} (ha : Asc l) {x : It} (hx : x ∈ l) : look l (key x) = some x.f1 := by
  obtain ⟨i, h, rfl⟩ := List.getElem_of_mem hx
  exact look_at ha i h
theorem diff_new : ∀ {a b : List It}, Asc a → Asc b → ∀ c ∈ diffL a b, (look a (ck c)).map (·.toList) ≠ (if c.f1 = true then some c.f2.toList else none)
  | a, [], ha, hb, c, h => by
    rw [diffL] at h
    obtain ⟨x, hx, rfl⟩ := List.mem_map.1 h
    rw [show ck (dl x) = key x from rfl, look_mem ha hx]
    simp [dl]
  | [], y :: b, ha, hb, c, h => by
    rw [diffL] at h
    rcases List.mem_cons.1 h with rfl | h
    · simp [look, ad]
    · exact diff_new ha hb.cons.2 c h
  | x :: a, y :: b, ha, hb, c, h => by
    rw [diffL] at h
    have hx := ha.cons.1
    have hy := hb.cons.1
    have far : ∀ {a' b' : List It}, c ∈ diffL a' b' → (∀ z ∈ a', Op.bytesLess (key x) (key z) = true) → (∀ z ∈ b', Op.bytesLess (key x) (key z) = true) → key x ≠ ck c := by
      intro a' b' hc h1 h2
      rcases diffL_key hc with ⟨z, hz, e⟩ | ⟨z, hz, e⟩
      · rw [e]; exact bl_ne (h1 z hz)
      · rw [e]; exact bl_ne (h2 z hz)
    split at h
    next hlt =>
      rcases List.mem_cons.1 h with rfl | h
      · rw [show ck (dl x) = key x from rfl, look_cons, if_pos rfl]; simp [dl]
      · have := far h hx (fun z hz => by rcases List.mem_cons.1 hz with rfl | hz
                                         · exact hlt
                                         · exact bl_trans hlt (hy z hz))
        rw [look_cons, if_neg this]
        exact diff_new ha.cons.2 hb c h
    next hnlt =>
      split at h
      next hk =>
        have hyx : ∀ z ∈ b, Op.bytesLess (key x) (key z) = true := fun z hz => by rw [hk]; exact hy z hz
        split at h
        next hv =>
          rw [look_cons, if_neg (far h hx hyx)]
          exact diff_new ha.cons.2 hb.cons.2 c h
        next hv =>
          rcases List.mem_cons.1 h with rfl | h
          · rw [show ck (ad y) = key y from rfl, look_cons, if_pos hk]; simpa [ad] using hv
          · rw [look_cons, if_neg (far h hx hyx)]
            exact diff_new ha.cons.2 hb.cons.2 c h
      next hk =>
        have hgt : Op.bytesLess (key y) (key x) = true := by
          rcases bl_total (key x) (key y) with e | e | e
          · exact absurd e hk
          · exact absurd e hnlt
          · exact e
        rcases List.mem_cons.1 h with rfl | h
        · rw [show ck (ad y) = key y from rfl, look_none (fun z hz => by
            rcases List.mem_cons.1 hz with rfl | hz
            · exact (bl_ne hgt).symm
            · exact (bl_ne (bl_trans hgt (hx z hz))).symm)]; simp [ad]
        · exact diff_new ha hb.cons.2 c h
termination_by a b => a.length + b.length
theorem put_ne {a b : List It} (ha : Asc a) (hb : Asc b) {c : Ch} (hc : c ∈ diffL a b) : put a c ≠ a := by
  intro h
  have h1 := diff_new ha hb c hc
  have h2 := look_put ha c (ck c)
  rw [h, if_pos rfl] at h2
  rw [h2] at h1
  apply h1
  split <;> rfl
theorem diff_ok {a b : List It} (ha : okL a = true) (hb : okL b = true) : ∀ c ∈ diffL a b, okc c = true := by
  refine diffL_each (fun x hx => ?_) (fun y hy => ?_)
  · have := ((okL_iff a).1 ha).1 x hx
    unfold okI at this
    rw [Bool.and_eq_true] at this
    unfold okc dl
    have t0 : (⟨#[]⟩ : ByteArray).toList = [] := by rw [ByteArray.toList_eq]
    have s0 : (⟨#[]⟩ : ByteArray).size = 0 := rfl
    simp [this.1, t0, s0]
  · have := ((okL_iff b).1 hb).1 y hy
    unfold okI at this
    unfold okc ad
    simpa using this
theorem diff_okC {a b : List It} (ha : okL a = true) (hb : okL b = true) : okC (diffL a b) = true := List.all_eq_true.2 (diff_ok ha hb)
theorem diff_self : ∀ a : List It, diffL a a = []
  | [] => by rw [diffL]; rfl
  | x :: a => by rw [diffL, if_neg (by rw [bl_irrefl]; simp), if_pos rfl, if_pos rfl]; exact diff_self a
theorem diff_asc : ∀ {a b : List It}, Asc a → Asc b → (diffL a b).Pairwise (fun c d => Op.bytesLess (ck c) (ck d) = true)
  | a, [], ha, hb => by
    rw [diffL]
    unfold Asc at ha
    exact List.pairwise_map.2 ha
  | [], y :: b, ha, hb => by
    rw [diffL]
    refine List.pairwise_cons.2 ⟨fun c hc => ?_, diff_asc ha hb.cons.2⟩
    rcases diffL_key hc with ⟨z, hz, e⟩ | ⟨z, hz, e⟩
    · cases hz
    · rw [e]; exact hb.cons.1 z hz
  | x :: a, y :: b, ha, hb => by
    have hx := ha.cons.1
    have hy := hb.cons.1
    rw [diffL]
    split
    next hlt =>
      refine List.pairwise_cons.2 ⟨fun c hc => ?_, diff_asc ha.cons.2 hb⟩
      rcases diffL_key hc with ⟨z, hz, e⟩ | ⟨z, hz, e⟩
      · rw [e]; exact hx z hz
      · rw [e]
        rcases List.mem_cons.1 hz with rfl | hz
        · exact hlt
        · exact bl_trans hlt (hy z hz)
    next hnlt =>
      split
      next hk =>
        split
        · exact diff_asc ha.cons.2 hb.cons.2
        · refine List.pairwise_cons.2 ⟨fun c hc => ?_, diff_asc ha.cons.2 hb.cons.2⟩
          rcases diffL_key hc with ⟨z, hz, e⟩ | ⟨z, hz, e⟩
          · rw [e, show ck (ad y) = key y from rfl, ← hk]; exact hx z hz
          · rw [e]; exact hy z hz
      next hk =>
        have hgt : Op.bytesLess (key y) (key x) = true := by
          rcases bl_total (key x) (key y) with e | e | e
          · exact absurd e hk
          · exact absurd e hnlt
          · exact e
        refine List.pairwise_cons.2 ⟨fun c hc => ?_, diff_asc ha hb.cons.2⟩
        rcases diffL_key hc with ⟨z, hz, e⟩ | ⟨z, hz, e⟩
        · rw [e]
          rcases List.mem_cons.1 hz with rfl | hz
          · exact hgt
          · exact bl_trans hgt (hx z hz)
        · rw [e]; exact hy z hz
termination_by a b => a.length + b.length
theorem diff_back : ∀ {a b : List It} (pre : List It), Asc (pre ++ a) → Asc (pre ++ b) → apl (pre ++ a) (diffL a b) = pre ++ b
  | a, [], pre, ha, hb => by
    rw [diffL]
    induction a with
    | nil => rfl
    | cons x a ih =>
      have h1 : put (pre ++ x :: a) (dl x) = pre ++ a := by
        have hp : pre ++ x :: a = pre ++ [x] ++ a := by simp
        rw [hp, put_parts (c := dl x) (fun z hz => ha.parts.2.2 z hz x (List.mem_cons_self ..)) (fun z hz => by rw [List.mem_singleton.1 hz]; rfl) (ha.parts.2.1.cons.1)]
        simp [new_, dl]
      simp only [List.map_cons, apl, List.foldl_cons]
      rw [h1]
      exact ih (ha.parts.1.app ha.parts.2.1.cons.2 (fun z hz w hw => ha.parts.2.2 z hz w (List.mem_cons_of_mem _ hw)))
  | [], y :: b, pre, ha, hb => by
    rw [diffL]
    have h1 : put (pre ++ []) (ad y) = (pre ++ [y]) ++ [] := by
      have hp : pre ++ ([] : List It) = pre ++ [] ++ [] := by simp
      rw [hp, put_parts (c := ad y) (fun z hz => hb.parts.2.2 z hz y (List.mem_cons_self ..)) (by simp) (by simp)]
      simp [new_, ad]
    simp only [apl, List.foldl_cons]
    rw [h1]
    have h2 : pre ++ y :: b = (pre ++ [y]) ++ b := by simp
    rw [h2] at hb ⊢
    exact diff_back (pre ++ [y]) (by simpa using hb.parts.1) hb
  | x :: a, y :: b, pre, ha, hb => by
    rw [diffL]
    have hx := ha.parts.2.1.cons.1
    have hy := hb.parts.2.1.cons.1
    have h2 : pre ++ y :: b = (pre ++ [y]) ++ b := by simp
    have h3 : pre ++ x :: a = pre ++ [x] ++ a := by simp
    split
    next hlt =>
      have h1 : put (pre ++ x :: a) (dl x) = pre ++ a := by
        rw [h3, put_parts (c := dl x) (fun z hz => ha.parts.2.2 z hz x (List.mem_cons_self ..)) (fun z hz => by rw [List.mem_singleton.1 hz]; rfl) hx]
        simp [new_, dl]
      simp only [apl, List.foldl_cons]
      rw [h1]
      exact diff_back pre (ha.parts.1.app ha.parts.2.1.cons.2 (fun z hz w hw => ha.parts.2.2 z hz w (List.mem_cons_of_mem _ hw))) hb
    next hnlt =>
      split
      next hk =>
        split
        next hv =>
          obtain rfl : x = y := it_ext hk hv
          rw [h3, h2]
          exact diff_back (pre ++ [x]) (h3 ▸ ha) (h2 ▸ hb)
        next hv =>
          have hc : ck (ad y) = key x := hk.symm
          have h1 : put (pre ++ x :: a) (ad y) = pre ++ [y] ++ a := by
            rw [h3, put_parts (c := ad y) (fun z hz => by rw [hc]; exact ha.parts.2.2 z hz x (List.mem_cons_self ..)) (fun z hz => by rw [List.mem_singleton.1 hz, hc]) (fun z hz => by rw [hc]; exact hx z hz)]
            simp [new_, ad]
          simp only [apl, List.foldl_cons]
          rw [h1, h2]
          refine diff_back (pre ++ [y]) ?_ (h2 ▸ hb)
          have hb2 : Asc (pre ++ [y]) := (h2 ▸ hb : Asc ((pre ++ [y]) ++ b)).parts.1
          refine hb2.app ha.parts.2.1.cons.2 (fun z hz w hw => ?_)
          rcases List.mem_append.1 hz with hz | hz
          · exact ha.parts.2.2 z hz w (List.mem_cons_of_mem _ hw)
          · rw [List.mem_singleton.1 hz, ← hk]; exact hx w hw
      next hk =>
        have hgt : Op.bytesLess (key y) (key x) = true := by
          rcases bl_total (key x) (key y) with e | e | e
          · exact absurd e hk
          · exact absurd e hnlt
          · exact e
        have hxa : ∀ z ∈ x :: a, Op.bytesLess (key y) (key z) = true := fun z hz => by
          rcases List.mem_cons.1 hz with rfl | hz
          · exact hgt
          · exact bl_trans hgt (hx z hz)
        have h1 : put (pre ++ x :: a) (ad y) = pre ++ [y] ++ (x :: a) := by
          have hp : pre ++ x :: a = pre ++ [] ++ (x :: a) := by simp
          rw [hp, put_parts (c := ad y) (fun z hz => hb.parts.2.2 z hz y (List.mem_cons_self ..)) (by simp) hxa]
          simp [new_, ad]
        simp only [apl, List.foldl_cons]
        rw [h1, h2]
        refine diff_back (pre ++ [y]) ?_ (h2 ▸ hb)
        have hb2 : Asc (pre ++ [y]) := (h2 ▸ hb : Asc ((pre ++ [y]) ++ b)).parts.1
        refine hb2.app ha.parts.2.1 (fun z hz w hw => ?_)
        rcases List.mem_append.1 hz with hz | hz
        · exact ha.parts.2.2 z hz w hw
        · rw [List.mem_singleton.1 hz]; exact hxa w hw
termination_by a b => a.length + b.length
end Go.Proofs.Ytfijciielmllbaa.Z
end

section
/- What a reading of an argument as data gives a contract: the values of a kind (Kd), well formed, and their bulk. -/
namespace Go.Proofs.Ytfijciielmllbaa.Z
open Go.ChangeShapes Go.WideShapes Go.ChangeAt Go.RowKit Go.Deep Go.Proofs.YtfijciielmllbaaW.PrintWords Go.Proofs.YtfijciielmllbaaW.PrintLast
set_option linter.unusedVariables false
/-- Every reading of type t's cells is one of d, is G, and is of bulk B at least. -/
def Opens {α : Type} (P : Program) (t : TypeId) (d : Kd α) (G : α → Prop) (B : α → Nat) : Prop :=
  d.sz = P.cellsOf t ∧ ∀ {H : Type} {enc : TypeId × Value → H} {w : World} {base : Nat} {spare : Nat → Bool} {held : Bool} {fuel : Nat} {cs : List Value} {x : DataW H × List MemPlace},
    DataW.trod enc P w base spare held fuel t cs = some x → ∃ a, d.K w a cs ∧ G a ∧ B a ≤ Rows.uptoBulk x.1
theorem Opens.bool {P : Program} {t : TypeId} (ht : P.underlying t = some .bool) (hc : P.cellsOf t = 1) : Opens P t Kd.bool (fun _ => True) (fun _ => 1) := by
  refine ⟨hc.symm, fun h => ?_⟩
  obtain ⟨b, rfl, rfl⟩ := DataW.trod_bool ht h
  exact ⟨b, rfl, trivial, by simp [Rows.uptoBulk]⟩
theorem Opens.int {P : Program} {t : TypeId} {k : IntKind} (ht : P.underlying t = some (.int k)) (hc : P.cellsOf t = 1) : Opens P t (Kd.int k) (fun n => (Lit.int k n).wf = true) (fun _ => 1) := by
  refine ⟨hc.symm, fun h => ?_⟩
  obtain ⟨b, rfl, rfl, hw⟩ := DataW.trod_int ht h
  exact ⟨b, rfl, hw, by simp [Rows.uptoBulk]⟩
theorem Opens.string {P : Program} {t : TypeId} (ht : P.underlying t = some .string) (hc : P.cellsOf t = 1) : Opens P t Kd.string (fun s => s.size ≤ maxLen) (fun s => s.size + 1) := by
  refine ⟨hc.symm, fun h => ?_⟩
  obtain ⟨b, rfl, rfl, hw⟩ := DataW.trod_string ht h
  exact ⟨b, rfl, hw, by simp [Rows.uptoBulk]⟩
theorem bulk_len {H : Type} (l : List (DataW H)) {α : Type} {B : α → Nat} (xs : List α) (hl : xs.length = l.length) (h : ∀ (i : Nat) (a : α) (y : DataW H), xs[i]? = some a → l[i]? = some y → B a ≤ Rows.uptoBulk y) : (xs.map B).sum ≤ Rows.uptoBulkAll l := by
  induction l generalizing xs with
  | nil => have : xs = [] := List.eq_nil_of_length_eq_zero hl; subst this; simp [Rows.uptoBulkAll]
  | cons y l ih =>
    cases xs with
    | nil => simp at hl
    | cons a xs =>
      simp only [List.map_cons, List.sum_cons, Rows.uptoBulkAll]
      have h0 := h 0 a y rfl rfl
      have h1 := ih xs (by simpa using hl) (fun i a y ha hy => h (i + 1) a y (by simpa using ha) (by simpa using hy))
      omega
theorem list_of_each {α : Type} (p : Nat → α → Prop) : ∀ n : Nat, (∀ i, i < n → ∃ a, p i a) → ∃ l : List α, l.length = n ∧ ∀ i a, l[i]? = some a → p i a
  | 0, _ => ⟨[], rfl, fun i a h => by simp at h⟩
  | n + 1, h => by
    obtain ⟨l, hl, hp⟩ := list_of_each p n (fun i hi => h i (by omega))
    obtain ⟨a, ha⟩ := h n (by omega)
    refine ⟨l ++ [a], by simp [hl], fun i b hb => ?_⟩
    rcases Nat.lt_or_ge i l.length with hi | hi
    · rw [List.getElem?_append_left hi] at hb; exact hp i b hb
    · have hi2 : i = l.length := by
        have := (List.getElem?_eq_some_iff.1 hb).1
        simp at this; omega
      subst hi2
      have hb2 : a = b := by simpa using hb
      subst hb2
      rw [hl]; exact ha
/-- A slice, opened. -/
theorem Opens.row {α : Type} {P : Program} {t e : TypeId} {d : Kd α} {G : α → Prop} {B : α → Nat} (ht : P.underlying t = some (.slice e)) (hO : Opens P e d G B) (hpos : 0 < P.cellsOf e)
    {H : Type} {enc : TypeId × Value → H} {w : World} {base : Nat} {spare : Nat → Bool} {held : Bool} {fuel : Nat} {cs : List Value} {x : DataW H × List MemPlace} (h : DataW.trod enc P w base spare held fuel t cs = some x) :
    ∃ (A : Option Addr) (c : Nat) (l : List α), cs = [.slice A l.length c] ∧ l.length ≤ c ∧ c ≤ maxLen ∧ Kd.C d w A l.length l ∧ (∀ a ∈ l, G a) ∧ (l.map B).sum + 1 ≤ Rows.uptoBulk x.1 ∧ (x.1 = .nil ∧ l = [] ∨ ∃ el sp, x.1 = .slice el sp ∧ el.length = l.length) := by
  rcases DataW.trod_slice ht h with ⟨rfl, rfl⟩ | ⟨a, len, cap, elems, rest, n, _, rfl, rfl, hb, hl, hm, hlen, hel, _, _⟩
  · exact ⟨none, 0, [], rfl, Nat.le_refl _, Nat.zero_le _, Kd.C_nil _ _, by simp, by simp [Rows.uptoBulk], Or.inl ⟨rfl, rfl⟩⟩
  · have each : ∀ i, i < len → ∃ a' : α, ∃ cs' y, w.cells? base (a.add (i * P.cellsOf e)) (P.cellsOf e) = some cs' ∧ elems[i]? = some y ∧ d.K w a' cs' ∧ G a' ∧ B a' ≤ Rows.uptoBulk y.1 := by
      intro i hi
      have h1 := hel i hi
      obtain ⟨y, hy⟩ : ∃ y, elems[i]? = some y := ⟨elems[i]'(by omega), List.getElem?_eq_getElem (by omega)⟩
      rw [hy, Option.bind_eq_some_iff] at h1
      obtain ⟨cs', hcs, htr⟩ := h1
      obtain ⟨a', hK, hG, hB⟩ := hO.2 htr
      exact ⟨a', cs', y, hcs, hy, hK, hG, hB⟩
    obtain ⟨l, hll, hp⟩ := list_of_each _ len each
    subst hll
    refine ⟨some a, cap, l, rfl, hl, hm, ⟨rfl, by unfold maxLen at hm; omega, fun _ => ⟨a, rfl, fun j p hj => ?_⟩⟩, ?_, ?_, Or.inr ⟨_, _, rfl, by simpa using hlen⟩⟩
    · obtain ⟨cs', y, hcs, _, hK, _, _⟩ := hp j p hj
      obtain ⟨_, hln, hc⟩ := World.cells?_some hcs
      refine ⟨cs', by rw [hln, hO.1], hK, fun i u hu => ?_⟩
      have hi : i < P.cellsOf e := by rw [← hln]; exact (List.getElem?_eq_some_iff.1 hu).1
      have := hc i hi
      rw [hu] at this
      rw [hO.1, ← this]
      congr 1
      have hs : a.spot = none := by
        have h0 := hc 0 hpos
        rw [List.getElem?_eq_getElem (by omega)] at h0
        cases hsp : a.spot with
        | none => rfl
        | some s =>
          rcases Nat.eq_zero_or_pos (j * P.cellsOf e) with hz | hz
          · rw [hz] at h0
            have : w.cell? a = some _ := h0
            unfold World.cell? at this
            rw [hsp] at this
            split at this <;> simp at this
          · have hl0 : 0 < l.length := by have := (List.getElem?_eq_some_iff.1 hj).1; omega
            obtain ⟨p0, hp0⟩ : ∃ p0, l[0]? = some p0 := ⟨l[0], List.getElem?_eq_getElem hl0⟩
            obtain ⟨cs0, y0, hcs0, _, _, _, _⟩ := hp 0 p0 hp0
            obtain ⟨_, hln0, hc0⟩ := World.cells?_some hcs0
            have h00 := hc0 0 hpos
            rw [List.getElem?_eq_getElem (by omega), Nat.zero_mul] at h00
            have : w.cell? a = some _ := h00
            unfold World.cell? at this
            rw [hsp] at this
            split at this <;> simp at this
      obtain ⟨b, o, s⟩ := a
      simp only at hs
      subst hs
      rw [add_at, add_at, add_at, Nat.add_assoc]
    · intro b hb
      obtain ⟨i, hi⟩ := List.getElem?_of_mem hb
      exact (hp i b hi).choose_spec.choose_spec.2.2.2.1
    · simp only [Rows.uptoBulk]
      have := bulk_len (elems.map (·.1)) (B := B) l (by simp [hlen]) (fun i b y hb hy => by
        obtain ⟨cs', y', _, hy', _, _, hB⟩ := hp i b hb
        rw [List.getElem?_map, hy'] at hy
        simp at hy
        subst hy
        exact hB)
      omega
/-- A struct of fields of one cell: each field's cell and reading. -/
theorem flat_fields {P : Program} {t : TypeId} {fs : Array Field} (ht : P.underlying t = some (.struct fs)) (hone : oneCellFields P fs = true) (hC : P.cellsOf t = fs.size)
    {H : Type} {enc : TypeId × Value → H} {w : World} {base : Nat} {spare : Nat → Bool} {held : Bool} {fuel : Nat} {cs : List Value} {x : DataW H × List MemPlace} (h : DataW.trod enc P w base spare held fuel t cs = some x) :
    ∃ (ys : List (DataW H × List MemPlace)) (n : Nat), cs.length = fs.size ∧ ys.length = fs.size ∧ x.1 = .agg (ys.map (·.1)) ∧ ∀ (i : Nat) (f : Field) (c : Value), fs[i]? = some f → cs[i]? = some c → DataW.trod enc P w base spare held n f.type [c] = ys[i]? := by
  obtain ⟨xs, n, _, rfl, hl, hlen, hf⟩ := DataW.trod_struct ht h
  refine ⟨xs, n, hl.trans hC, hlen, rfl, fun i f c hfi hc => ?_⟩
  have h1 := hf i f hfi
  obtain ⟨o0, k0⟩ := hone_of hone i f hfi
  rw [o0, k0] at h1
  rw [← h1]
  congr 1
  have hi := (List.getElem?_eq_some_iff.1 hc).1
  rw [List.drop_eq_getElem_cons hi, List.take_succ_cons, List.take_zero]
  rw [List.getElem?_eq_getElem hi] at hc
  simp at hc
  rw [hc]
/-- A slice among the arguments: its length, by the form's reach. -/
theorem sized_row {H : Type} {P : Program} {ts : List TypeId} {ds : List (DataW H)} {j : Nat} {t e : TypeId} {d : DataW H} {α : Type} {l : List α}
    (hsz : (DataW.weightsEach P ts ds).all (· ≤ reachBytes) = true) (ht : ts[j]? = some t) (hd : ds[j]? = some d) (hu : P.underlying t = some (.slice e)) {b : Nat} (hb : P.bytesOf e = b)
    (hx : d = .nil ∧ l = [] ∨ ∃ el sp, d = .slice el sp ∧ el.length = l.length) : l.length * b ≤ 140737488351232 := by
  rcases hx with ⟨_, rfl⟩ | ⟨el, sp, rfl, hl⟩
  · simp
  · have := sized_slice hsz ht hd hu
    rw [hb, hl] at this
    exact Nat.le_trans (Nat.mul_le_mul_right _ (Nat.le_add_right _ _)) this
/-- A slice that is a field of an argument: its length, by the form's reach. -/
theorem sized_field {H : Type} {P : Program} {ts : List TypeId} {ds : List (DataW H)} {j i : Nat} {t u e : TypeId} {d y : DataW H} {parts : List (DataW H)} {fs : Array Field} {α : Type} {l : List α}
    (hsz : (DataW.weightsEach P ts ds).all (· ≤ reachBytes) = true) (ht : ts[j]? = some t) (hd : ds[j]? = some d) (hx : d = .agg parts) (hu : P.underlying t = some (.struct fs)) (hf : (fs.toList.map (·.type))[i]? = some u) (hp : parts[i]? = some y)
    (hu2 : P.underlying u = some (.slice e)) {b : Nat} (hb : P.bytesOf e = b) (hy : y = .nil ∧ l = [] ∨ ∃ el sp, y = .slice el sp ∧ el.length = l.length) : l.length * b ≤ 140737488351232 := by
  rcases hy with ⟨_, rfl⟩ | ⟨el, sp, rfl, hl⟩
  · simp
  · have h1 : (el.length + sp.length) * P.bytesOf e ∈ DataW.weights P t d := by
      subst hx
      simp only [DataW.weights, hu]
      exact DataW.weights_mem_each hf hp _ (by simp [DataW.weights, hu2])
    have h2 := List.all_eq_true.1 hsz _ (DataW.weights_mem_each ht hd _ h1)
    rw [decide_eq_true_eq, hb, hl] at h2
    exact Nat.le_trans (Nat.mul_le_mul_right _ (Nat.le_add_right _ _)) h2
theorem string_len {s : ByteArray} : s.data.toList.length = s.size := by rw [Array.length_toList]; rfl
end Go.Proofs.Ytfijciielmllbaa.Z
end

section
-- Printed by a program of this session (mp.py): what a reading gives of the kinds that are arguments.
namespace Go.Proofs.Ytfijciielmllbaa.Z
open Go.ChangeShapes Go.WideShapes Go.ChangeAt Go.RowKit Go.Deep Go.Proofs.YtfijciielmllbaaW.PrintWords
set_option linter.unusedVariables false
def G31 (x : S31) : Prop := x.f0.size ≤ maxLen ∧ x.f1.size ≤ maxLen
def B31 (x : S31) : Nat := (x.f0.size + 1) + (x.f1.size + 1) + 1
theorem opens31 : Opens Try.prog 31 k31 G31 B31 := by
  refine ⟨by kernel_rfl, fun {H enc w base spare held fuel cs x} h => ?_⟩
  obtain ⟨ys, n, hl, hy, hx, hf⟩ := flat_fields Try.underlying31 (by kernel_rfl) (by kernel_rfl) h
  match cs, hl with
  | [c0, c1], _ =>
    match ys, hy with
    | [y0, y1], _ =>
      obtain ⟨a0, k0, g0, b0⟩ := (Opens.string Try.underlying9 (by kernel_rfl)).2 (hf 0 _ c0 rfl rfl)
      obtain ⟨a1, k1, g1, b1⟩ := (Opens.string Try.underlying9 (by kernel_rfl)).2 (hf 1 _ c1 rfl rfl)
      refine ⟨⟨a0, a1⟩, ⟨[c0], [c1], rfl, k0, k1⟩, ⟨g0, g1⟩, ?_⟩
      rw [hx]
      simp only [Rows.uptoBulk, Rows.uptoBulkAll, List.map_cons, List.map_nil, B31]
      dsimp only at b0 b1
      omega
def G39 (x : S39) : Prop := x.f0.size ≤ maxLen ∧ True ∧ x.f2.size ≤ maxLen
def B39 (x : S39) : Nat := (x.f0.size + 1) + 1 + (x.f2.size + 1) + 1
theorem opens39 : Opens Try.prog 39 k39 G39 B39 := by
  refine ⟨by kernel_rfl, fun {H enc w base spare held fuel cs x} h => ?_⟩
  obtain ⟨ys, n, hl, hy, hx, hf⟩ := flat_fields Try.underlying39 (by kernel_rfl) (by kernel_rfl) h
  match cs, hl with
  | [c0, c1, c2], _ =>
    match ys, hy with
    | [y0, y1, y2], _ =>
      obtain ⟨a0, k0, g0, b0⟩ := (Opens.string Try.underlying9 (by kernel_rfl)).2 (hf 0 _ c0 rfl rfl)
      obtain ⟨a1, k1, g1, b1⟩ := (Opens.bool Try.underlying4 (by kernel_rfl)).2 (hf 1 _ c1 rfl rfl)
      obtain ⟨a2, k2, g2, b2⟩ := (Opens.string Try.underlying9 (by kernel_rfl)).2 (hf 2 _ c2 rfl rfl)
      refine ⟨⟨a0, a1, a2⟩, ⟨[c0], [c1, c2], rfl, k0, ⟨[c1], [c2], rfl, k1, k2⟩⟩, ⟨g0, g1, g2⟩, ?_⟩
      rw [hx]
      simp only [Rows.uptoBulk, Rows.uptoBulkAll, List.map_cons, List.map_nil, B39]
      dsimp only at b0 b1 b2
      omega
end Go.Proofs.Ytfijciielmllbaa.Z
end
