/- ItemUnder: at every input the law's function returns true and leaves its arguments as they were; no condition beyond the row's own. Part 4 of 4: this session's own texts, laid together. -/
import Derived.Test.YtdahmaepfmcpbaaMItemUnder1
import Derived.Test.YtdahmaepfmcpbaaMItemUnder2
import Derived.Test.YtdahmaepfmcpbaaMItemUnder3
import Derived.Lib.Strings
import Derived.Test.YtdahmaepfmcpbaaRows
import Derived.Lib.SmallJoins
import Derived.Deep.Strs
import Derived.SizedLaws
import Derived.ChangeArms
import Derived.WalkKit
import Derived.ProofKit
import Derived.OpenShut
import Derived.ShutString
import Derived.ChangeOld
import Derived.Below
import Derived.Carry
section
-- Printed by a program of this session (mp.py) out of the translation.
namespace Go.Proofs.Ytdahmaepfmcpbaa.Z
open Go.RowKit Go.Proofs.YtdahmaepfmcpbaaW.PrintWords Go.Proofs.YtdahmaepfmcpbaaW.PrintLast Go.Proofs.YtdahmaepfmcpbaaW.PrintMore
attribute [local go_sem] max2_int min2_int max_two min_two max_three min_three max_four min_four   -- for this text's walks alone
set_option linter.unusedVariables false
set_option linter.unusedSimpArgs false

/-! ### cambiumlaw04_lives: function 16 -/
def cambiumlaw04_lives.f (k : Nat)  : Option (Bool) := (some (([(⟨(⟨#[97]⟩ : ByteArray), (⟨#[49]⟩ : ByteArray)⟩ : S43), (⟨(⟨#[98]⟩ : ByteArray), (⟨#[50]⟩ : ByteArray)⟩ : S43)] : List (S43)) : List (S43))).bind fun y249 => ((some (([(⟨(⟨#[98]⟩ : ByteArray), (⟨#[51]⟩ : ByteArray)⟩ : S43), (⟨(⟨#[99]⟩ : ByteArray), (⟨#[52]⟩ : ByteArray)⟩ : S43)] : List (S43)) : List (S43))).bind fun y252 => ((item_Diff.f k y249 y252).bind fun bt255 => ((item_Apply.f k y249 bt255.1).bind fun bt259 => ((item_Get.f k bt259.1 (⟨#[99]⟩ : ByteArray)).bind fun bt263 => ((item_Under.f k y249 (⟨#[98]⟩ : ByteArray)).bind fun bt265 => ((item_Get.f k y249 (⟨#[99]⟩ : ByteArray)).bind fun bt269 => (if (bt255.1.length : Int) = 3 then (if 0 < (bt255.1.length : Int) then (if ((rd_T39 bt255.1 0).f1 = true) then (some false) else (if 2 < (bt255.1.length : Int) then (if ((rd_T39 bt255.1 2).f2).toList = ([52] : List UInt8) then (if bt255.2 = 0 then ((cambiumref04_Same.f k y252 bt259.1).bind fun t273 => (if t273 = true then (if bt259.2 = 0 then (if bt263.1.toList = ([52] : List UInt8) then (if bt263.2 = 0 then (if (bt265.1.length : Int) = 1 then (if bt265.2 = 0 then (some (bt269.2 == 5)) else (some false)) else (some false)) else (some false)) else (some false)) else (some false)) else (some false))) else (some false)) else (some false)) else (none))) else (none)) else (some false))))))))
theorem cambiumlaw04_lives.mono : ∀ k, LeO (cambiumlaw04_lives.f k ) (cambiumlaw04_lives.f (k + 1) ) := by
  intro  k
  unfold cambiumlaw04_lives.f
  repeat' first
      | (with_reducible exact cambiumref04_Same.mono _ _ _)
      | (with_reducible exact item_Apply.mono _ _ _)
      | (with_reducible exact item_Diff.mono _ _ _)
      | (with_reducible exact item_Get.mono _ _ _)
      | (with_reducible exact item_Under.mono _ _ _)
      | (with_reducible exact LeO.refl _)
      | (with_reducible exact LeO.none _)
      | (with_reducible refine LeO.ite ?_ ?_)
      | (with_reducible refine LeO.bind ?_ (fun _ => ?_))
      | exact cambiumref04_Same.mono _ _ _
      | exact item_Apply.mono _ _ _
      | exact item_Diff.mono _ _ _
      | exact item_Get.mono _ _ _
      | exact item_Under.mono _ _ _
      | exact LeO.none _
      | refine LeO.ite ?_ ?_
      | refine LeO.bind ?_ (fun _ => ?_)
set_option maxHeartbeats 8000000 in
set_option maxRecDepth 100000 in
theorem cambiumlaw04_lives.calls (k : Nat)  (r : Bool) (w : World) (h : cambiumlaw04_lives.f k  = some r) (hT_ : r = true := by rfl) :
    Calls Try.prog 16 #[] w fun e w' => e = .returned (.bool r) ∧ Below w.heap.size w w' := by
  have HT_ := Aside0.mk hT_
  clear hT_
  have hu43 := Try.underlying43
  have HB := Aside0.mk (Below.refl w.heap.size w)
  have H : ((some (([(⟨(⟨#[97]⟩ : ByteArray), (⟨#[49]⟩ : ByteArray)⟩ : S43), (⟨(⟨#[98]⟩ : ByteArray), (⟨#[50]⟩ : ByteArray)⟩ : S43)] : List (S43)) : List (S43))).bind fun y249 => ((some (([(⟨(⟨#[98]⟩ : ByteArray), (⟨#[51]⟩ : ByteArray)⟩ : S43), (⟨(⟨#[99]⟩ : ByteArray), (⟨#[52]⟩ : ByteArray)⟩ : S43)] : List (S43)) : List (S43))).bind fun y252 => ((item_Diff.f k y249 y252).bind fun bt255 => ((item_Apply.f k y249 bt255.1).bind fun bt259 => ((item_Get.f k bt259.1 (⟨#[99]⟩ : ByteArray)).bind fun bt263 => ((item_Under.f k y249 (⟨#[98]⟩ : ByteArray)).bind fun bt265 => ((item_Get.f k y249 (⟨#[99]⟩ : ByteArray)).bind fun bt269 => (if (bt255.1.length : Int) = 3 then (if 0 < (bt255.1.length : Int) then (if ((rd_T39 bt255.1 0).f1 = true) then (some false) else (if 2 < (bt255.1.length : Int) then (if ((rd_T39 bt255.1 2).f2).toList = ([52] : List UInt8) then (if bt255.2 = 0 then ((cambiumref04_Same.f k y252 bt259.1).bind fun t273 => (if t273 = true then (if bt259.2 = 0 then (if bt263.1.toList = ([52] : List UInt8) then (if bt263.2 = 0 then (if (bt265.1.length : Int) = 1 then (if bt265.2 = 0 then (some (bt269.2 == 5)) else (some false)) else (some false)) else (some false)) else (some false)) else (some false)) else (some false))) else (some false)) else (some false)) else (none))) else (none)) else (some false))))))))) = some r := h
  clear h
  obtain ⟨y249, hy249⟩ : ∃ y_ : List (S43), y_ = (([(⟨(⟨#[97]⟩ : ByteArray), (⟨#[49]⟩ : ByteArray)⟩ : S43), (⟨(⟨#[98]⟩ : ByteArray), (⟨#[50]⟩ : ByteArray)⟩ : S43)] : List (S43))) := ⟨_, rfl⟩
  replace H : ((some (([(⟨(⟨#[98]⟩ : ByteArray), (⟨#[51]⟩ : ByteArray)⟩ : S43), (⟨(⟨#[99]⟩ : ByteArray), (⟨#[52]⟩ : ByteArray)⟩ : S43)] : List (S43)) : List (S43))).bind fun y252 => ((item_Diff.f k y249 y252).bind fun bt255 => ((item_Apply.f k y249 bt255.1).bind fun bt259 => ((item_Get.f k bt259.1 (⟨#[99]⟩ : ByteArray)).bind fun bt263 => ((item_Under.f k y249 (⟨#[98]⟩ : ByteArray)).bind fun bt265 => ((item_Get.f k y249 (⟨#[99]⟩ : ByteArray)).bind fun bt269 => (if (bt255.1.length : Int) = 3 then (if 0 < (bt255.1.length : Int) then (if ((rd_T39 bt255.1 0).f1 = true) then (some false) else (if 2 < (bt255.1.length : Int) then (if ((rd_T39 bt255.1 2).f2).toList = ([52] : List UInt8) then (if bt255.2 = 0 then ((cambiumref04_Same.f k y252 bt259.1).bind fun t273 => (if t273 = true then (if bt259.2 = 0 then (if bt263.1.toList = ([52] : List UInt8) then (if bt263.2 = 0 then (if (bt265.1.length : Int) = 1 then (if bt265.2 = 0 then (some (bt269.2 == 5)) else (some false)) else (some false)) else (some false)) else (some false)) else (some false)) else (some false))) else (some false)) else (some false)) else (none))) else (none)) else (some false)))))))) = some r := by first | (rw [hy249]; with_reducible exact H) | (have H2_ := (Option.bind_some _ _).symm.trans H; rw [hy249]; with_reducible exact H2_) | (have H2_ := (Option.bind_some _ _).symm.trans H; with_reducible exact H2_) | with_reducible exact H | (rw [hy249]; exact H) | exact H
  have Ny249 := Aside0.mk hy249
  clear hy249
  obtain ⟨y252, hy252⟩ : ∃ y_ : List (S43), y_ = (([(⟨(⟨#[98]⟩ : ByteArray), (⟨#[51]⟩ : ByteArray)⟩ : S43), (⟨(⟨#[99]⟩ : ByteArray), (⟨#[52]⟩ : ByteArray)⟩ : S43)] : List (S43))) := ⟨_, rfl⟩
  replace H : ((item_Diff.f k y249 y252).bind fun bt255 => ((item_Apply.f k y249 bt255.1).bind fun bt259 => ((item_Get.f k bt259.1 (⟨#[99]⟩ : ByteArray)).bind fun bt263 => ((item_Under.f k y249 (⟨#[98]⟩ : ByteArray)).bind fun bt265 => ((item_Get.f k y249 (⟨#[99]⟩ : ByteArray)).bind fun bt269 => (if (bt255.1.length : Int) = 3 then (if 0 < (bt255.1.length : Int) then (if ((rd_T39 bt255.1 0).f1 = true) then (some false) else (if 2 < (bt255.1.length : Int) then (if ((rd_T39 bt255.1 2).f2).toList = ([52] : List UInt8) then (if bt255.2 = 0 then ((cambiumref04_Same.f k y252 bt259.1).bind fun t273 => (if t273 = true then (if bt259.2 = 0 then (if bt263.1.toList = ([52] : List UInt8) then (if bt263.2 = 0 then (if (bt265.1.length : Int) = 1 then (if bt265.2 = 0 then (some (bt269.2 == 5)) else (some false)) else (some false)) else (some false)) else (some false)) else (some false)) else (some false))) else (some false)) else (some false)) else (none))) else (none)) else (some false))))))) = some r := by first | (rw [hy252]; with_reducible exact H) | (have H2_ := (Option.bind_some _ _).symm.trans H; rw [hy252]; with_reducible exact H2_) | (have H2_ := (Option.bind_some _ _).symm.trans H; with_reducible exact H2_) | with_reducible exact H | (rw [hy252]; exact H) | exact H
  have Ny252 := Aside0.mk hy252
  clear hy252
  replace H := Option.bind_eq_some_iff.mp H
  obtain ⟨⟨t255, t258⟩, A10, H⟩ := H
  replace H : ((item_Apply.f k y249 t255).bind fun bt259 => ((item_Get.f k bt259.1 (⟨#[99]⟩ : ByteArray)).bind fun bt263 => ((item_Under.f k y249 (⟨#[98]⟩ : ByteArray)).bind fun bt265 => ((item_Get.f k y249 (⟨#[99]⟩ : ByteArray)).bind fun bt269 => (if (t255.length : Int) = 3 then (if 0 < (t255.length : Int) then (if ((rd_T39 t255 0).f1 = true) then (some false) else (if 2 < (t255.length : Int) then (if ((rd_T39 t255 2).f2).toList = ([52] : List UInt8) then (if t258 = 0 then ((cambiumref04_Same.f k y252 bt259.1).bind fun t273 => (if t273 = true then (if bt259.2 = 0 then (if bt263.1.toList = ([52] : List UInt8) then (if bt263.2 = 0 then (if (bt265.1.length : Int) = 1 then (if bt265.2 = 0 then (some (bt269.2 == 5)) else (some false)) else (some false)) else (some false)) else (some false)) else (some false)) else (some false))) else (some false)) else (some false)) else (none))) else (none)) else (some false)))))) = some r := H
  have A1 := Aside0.mk A10
  clear A10
  replace H := Option.bind_eq_some_iff.mp H
  obtain ⟨⟨t259, t260⟩, A20, H⟩ := H
  replace H : ((item_Get.f k t259 (⟨#[99]⟩ : ByteArray)).bind fun bt263 => ((item_Under.f k y249 (⟨#[98]⟩ : ByteArray)).bind fun bt265 => ((item_Get.f k y249 (⟨#[99]⟩ : ByteArray)).bind fun bt269 => (if (t255.length : Int) = 3 then (if 0 < (t255.length : Int) then (if ((rd_T39 t255 0).f1 = true) then (some false) else (if 2 < (t255.length : Int) then (if ((rd_T39 t255 2).f2).toList = ([52] : List UInt8) then (if t258 = 0 then ((cambiumref04_Same.f k y252 t259).bind fun t273 => (if t273 = true then (if t260 = 0 then (if bt263.1.toList = ([52] : List UInt8) then (if bt263.2 = 0 then (if (bt265.1.length : Int) = 1 then (if bt265.2 = 0 then (some (bt269.2 == 5)) else (some false)) else (some false)) else (some false)) else (some false)) else (some false)) else (some false))) else (some false)) else (some false)) else (none))) else (none)) else (some false))))) = some r := H
  have A2 := Aside0.mk A20
  clear A20
  replace H := Option.bind_eq_some_iff.mp H
  obtain ⟨⟨t263, t264⟩, A30, H⟩ := H
  replace H : ((item_Under.f k y249 (⟨#[98]⟩ : ByteArray)).bind fun bt265 => ((item_Get.f k y249 (⟨#[99]⟩ : ByteArray)).bind fun bt269 => (if (t255.length : Int) = 3 then (if 0 < (t255.length : Int) then (if ((rd_T39 t255 0).f1 = true) then (some false) else (if 2 < (t255.length : Int) then (if ((rd_T39 t255 2).f2).toList = ([52] : List UInt8) then (if t258 = 0 then ((cambiumref04_Same.f k y252 t259).bind fun t273 => (if t273 = true then (if t260 = 0 then (if t263.toList = ([52] : List UInt8) then (if t264 = 0 then (if (bt265.1.length : Int) = 1 then (if bt265.2 = 0 then (some (bt269.2 == 5)) else (some false)) else (some false)) else (some false)) else (some false)) else (some false)) else (some false))) else (some false)) else (some false)) else (none))) else (none)) else (some false)))) = some r := H
  have A3 := Aside0.mk A30
  clear A30
  replace H := Option.bind_eq_some_iff.mp H
  obtain ⟨⟨t265, t266⟩, A40, H⟩ := H
  replace H : ((item_Get.f k y249 (⟨#[99]⟩ : ByteArray)).bind fun bt269 => (if (t255.length : Int) = 3 then (if 0 < (t255.length : Int) then (if ((rd_T39 t255 0).f1 = true) then (some false) else (if 2 < (t255.length : Int) then (if ((rd_T39 t255 2).f2).toList = ([52] : List UInt8) then (if t258 = 0 then ((cambiumref04_Same.f k y252 t259).bind fun t273 => (if t273 = true then (if t260 = 0 then (if t263.toList = ([52] : List UInt8) then (if t264 = 0 then (if (t265.length : Int) = 1 then (if t266 = 0 then (some (bt269.2 == 5)) else (some false)) else (some false)) else (some false)) else (some false)) else (some false)) else (some false))) else (some false)) else (some false)) else (none))) else (none)) else (some false))) = some r := H
  have A4 := Aside0.mk A40
  clear A40
  replace H := Option.bind_eq_some_iff.mp H
  obtain ⟨⟨t269, t270⟩, A50, H⟩ := H
  replace H : (if (t255.length : Int) = 3 then (if 0 < (t255.length : Int) then (if ((rd_T39 t255 0).f1 = true) then (some false) else (if 2 < (t255.length : Int) then (if ((rd_T39 t255 2).f2).toList = ([52] : List UInt8) then (if t258 = 0 then ((cambiumref04_Same.f k y252 t259).bind fun t273 => (if t273 = true then (if t260 = 0 then (if t263.toList = ([52] : List UInt8) then (if t264 = 0 then (if (t265.length : Int) = 1 then (if t266 = 0 then (some (t270 == 5)) else (some false)) else (some false)) else (some false)) else (some false)) else (some false)) else (some false))) else (some false)) else (some false)) else (none))) else (none)) else (some false)) = some r := H
  have A5 := Aside0.mk A50
  clear A50
  by_cases c6 : (t255.length : Int) = 3
  · rw [if_pos c6] at H
    have c6b0 : ((t255.length : Int) == 3) = true := beq_iff_eq.mpr c6
    have c6b1 : ((t255.length : Int) != 3) = false := bne_eq_false_iff_eq.mpr c6
    clear c6
    by_cases c7 : 0 < (t255.length : Int)
    · rw [if_pos c7] at H
      have c7b0 : decide (0 < (t255.length : Int)) = true := decide_eq_true c7
      have c7b1 : decide (0 < t255.length) = true := decide_eq_true (by omega)
      clear c7
      obtain ⟨bq8, hbq8⟩ : ∃ b_ : Bool, b_ = ((rd_T39 t255 0).f1) := ⟨_, rfl⟩
      replace H : (if (bq8 = true) then (some false) else (if 2 < (t255.length : Int) then (if ((rd_T39 t255 2).f2).toList = ([52] : List UInt8) then (if t258 = 0 then ((cambiumref04_Same.f k y252 t259).bind fun t273 => (if t273 = true then (if t260 = 0 then (if t263.toList = ([52] : List UInt8) then (if t264 = 0 then (if (t265.length : Int) = 1 then (if t266 = 0 then (some (t270 == 5)) else (some false)) else (some false)) else (some false)) else (some false)) else (some false)) else (some false))) else (some false)) else (some false)) else (none))) = some r := by rw [← hbq8] at H; exact H
      have Nbq8 := Aside0.mk hbq8
      clear hbq8
      by_cases c9 : (bq8 = true)
      · subst c9
        have H1 : (some false) = some r := by rw [if_pos rfl] at H; exact H
        clear H
        have H := H1
        clear H1
        exact absurd ((Option.some.inj H).trans HT_.out) (by simp)
      · replace c9 := Bool.eq_false_iff.mpr c9
        subst c9
        have H1 : (if 2 < (t255.length : Int) then (if ((rd_T39 t255 2).f2).toList = ([52] : List UInt8) then (if t258 = 0 then ((cambiumref04_Same.f k y252 t259).bind fun t273 => (if t273 = true then (if t260 = 0 then (if t263.toList = ([52] : List UInt8) then (if t264 = 0 then (if (t265.length : Int) = 1 then (if t266 = 0 then (some (t270 == 5)) else (some false)) else (some false)) else (some false)) else (some false)) else (some false)) else (some false))) else (some false)) else (some false)) else (none)) = some r := by rw [if_neg (show ¬ (false = true) by decide)] at H; exact H
        clear H
        have H := H1
        clear H1
        by_cases c10 : 2 < (t255.length : Int)
        · rw [if_pos c10] at H
          have c10b0 : decide (2 < (t255.length : Int)) = true := decide_eq_true c10
          have c10b1 : decide (2 < t255.length) = true := decide_eq_true (by omega)
          clear c10
          by_cases c11 : ((rd_T39 t255 2).f2).toList = ([52] : List UInt8)
          · rw [if_pos c11] at H
            have c11b0 : (((rd_T39 t255 2).f2).toList == ([52] : List UInt8)) = true := beq_iff_eq.mpr c11
            have c11b1 : (((rd_T39 t255 2).f2).toList != ([52] : List UInt8)) = false := bne_eq_false_iff_eq.mpr c11
            clear c11
            by_cases c12 : t258 = 0
            · rw [if_pos c12] at H
              have c12b0 : (t258 == 0) = true := beq_iff_eq.mpr c12
              have c12b1 : (t258 != 0) = false := bne_eq_false_iff_eq.mpr c12
              clear c12
              replace H := Option.bind_eq_some_iff.mp H
              obtain ⟨t273, A130, H⟩ := H
              replace H : (if t273 = true then (if t260 = 0 then (if t263.toList = ([52] : List UInt8) then (if t264 = 0 then (if (t265.length : Int) = 1 then (if t266 = 0 then (some (t270 == 5)) else (some false)) else (some false)) else (some false)) else (some false)) else (some false)) else (some false)) = some r := H
              have A13 := Aside0.mk A130
              clear A130
              by_cases c14 : t273 = true
              · subst c14
                have H1 : (if t260 = 0 then (if t263.toList = ([52] : List UInt8) then (if t264 = 0 then (if (t265.length : Int) = 1 then (if t266 = 0 then (some (t270 == 5)) else (some false)) else (some false)) else (some false)) else (some false)) else (some false)) = some r := by rw [if_pos rfl] at H; exact H
                clear H
                have H := H1
                clear H1
                by_cases c15 : t260 = 0
                · rw [if_pos c15] at H
                  have c15b0 : (t260 == 0) = true := beq_iff_eq.mpr c15
                  have c15b1 : (t260 != 0) = false := bne_eq_false_iff_eq.mpr c15
                  clear c15
                  by_cases c16 : t263.toList = ([52] : List UInt8)
                  · rw [if_pos c16] at H
                    have c16b0 : (t263.toList == ([52] : List UInt8)) = true := beq_iff_eq.mpr c16
                    have c16b1 : (t263.toList != ([52] : List UInt8)) = false := bne_eq_false_iff_eq.mpr c16
                    clear c16
                    by_cases c17 : t264 = 0
                    · rw [if_pos c17] at H
                      have c17b0 : (t264 == 0) = true := beq_iff_eq.mpr c17
                      have c17b1 : (t264 != 0) = false := bne_eq_false_iff_eq.mpr c17
                      clear c17
                      by_cases c18 : (t265.length : Int) = 1
                      · rw [if_pos c18] at H
                        have c18b0 : ((t265.length : Int) == 1) = true := beq_iff_eq.mpr c18
                        have c18b1 : ((t265.length : Int) != 1) = false := bne_eq_false_iff_eq.mpr c18
                        clear c18
                        by_cases c19 : t266 = 0
                        · rw [if_pos c19] at H
                          have c19b0 : (t266 == 0) = true := beq_iff_eq.mpr c19
                          have c19b1 : (t266 != 0) = false := bne_eq_false_iff_eq.mpr c19
                          clear c19
                          obtain rfl := Option.some.inj H
                          go_enter Try.func16, Try.ntmps16
                          go_wp2_with (first | ((with_reducible refine gate_dst (N := 15) rfl ?_); (try (refine gate_guard (by rfl) ?_; dsimp only)); refine Kd.R_lit k43 _ 43 ?hg (N := 15) ?hd (xs := ([(⟨(⟨#[97]⟩ : ByteArray), (⟨#[49]⟩ : ByteArray)⟩ : S43), (⟨(⟨#[98]⟩ : ByteArray), (⟨#[50]⟩ : ByteArray)⟩ : S43)] : List (S43))) (inner := [.string (⟨#[97]⟩ : ByteArray), .string (⟨#[49]⟩ : ByteArray), .string (⟨#[98]⟩ : ByteArray), .string (⟨#[50]⟩ : ByteArray)]) (ok := fun _ => True) (okp := fun _ => True) ?hr ?hp (fun _ hk => hk) trivial (Below.refl _ _) (Nat.le_refl _) (by simp) ?_; (case hd => rfl); (case hg => rfl); (case hr => first | (go_simp; done) | (go_simp; rfl)); (case hp => exact (Reps.c2 (show Kd.M k43 _ _ _ (⟨(⟨#[97]⟩ : ByteArray), (⟨#[49]⟩ : ByteArray)⟩ : S43) [.string (⟨#[97]⟩ : ByteArray), .string (⟨#[49]⟩ : ByteArray)] from (k43_mkM _ _ _ (⟨(⟨#[97]⟩ : ByteArray), (⟨#[49]⟩ : ByteArray)⟩ : S43) )) (Reps.c2 (show Kd.M k43 _ _ _ (⟨(⟨#[98]⟩ : ByteArray), (⟨#[50]⟩ : ByteArray)⟩ : S43) [.string (⟨#[98]⟩ : ByteArray), .string (⟨#[50]⟩ : ByteArray)] from (k43_mkM _ _ _ (⟨(⟨#[98]⟩ : ByteArray), (⟨#[50]⟩ : ByteArray)⟩ : S43) )) (Reps.none _ _)))); intro v250 w20 ho21 hb hg_ hnew_; clear hg_ hnew_; (first | rw [← Ny249.out] at ho21 | (simp only [Int.reduceToNat] at ho21; rw [← Ny249.out] at ho21)); have n0_ := Aside0.mk (Kd.R_lower ho21 (below_size (by repeat (first | (with_reducible first | exact HB.out | apply below_alloc | apply pw_below_drewN | apply below_drew1) | exact HB.out)))); have n1_ := Aside0.mk (below_step (by repeat (first | (with_reducible first | exact HB.out | apply below_alloc | apply pw_below_drewN | apply below_drew1) | exact HB.out)) hb); clear HB; have HO251 := n0_; have HB := n1_; clear n0_ n1_; clear hb ho21) | ((with_reducible refine gate_dst (N := 18) rfl ?_); (try (refine gate_guard (by rfl) ?_; dsimp only)); refine Kd.R_lit k43 _ 43 ?hg (N := 18) ?hd (xs := ([(⟨(⟨#[98]⟩ : ByteArray), (⟨#[51]⟩ : ByteArray)⟩ : S43), (⟨(⟨#[99]⟩ : ByteArray), (⟨#[52]⟩ : ByteArray)⟩ : S43)] : List (S43))) (inner := [.string (⟨#[98]⟩ : ByteArray), .string (⟨#[51]⟩ : ByteArray), .string (⟨#[99]⟩ : ByteArray), .string (⟨#[52]⟩ : ByteArray)]) (ok := fun _ => True) (okp := fun _ => True) ?hr ?hp (fun _ hk => hk) trivial (Below.refl _ _) (Nat.le_refl _) (by simp) ?_; (case hd => rfl); (case hg => rfl); (case hr => first | (go_simp; done) | (go_simp; rfl)); (case hp => exact (Reps.c2 (show Kd.M k43 _ _ _ (⟨(⟨#[98]⟩ : ByteArray), (⟨#[51]⟩ : ByteArray)⟩ : S43) [.string (⟨#[98]⟩ : ByteArray), .string (⟨#[51]⟩ : ByteArray)] from (k43_mkM _ _ _ (⟨(⟨#[98]⟩ : ByteArray), (⟨#[51]⟩ : ByteArray)⟩ : S43) )) (Reps.c2 (show Kd.M k43 _ _ _ (⟨(⟨#[99]⟩ : ByteArray), (⟨#[52]⟩ : ByteArray)⟩ : S43) [.string (⟨#[99]⟩ : ByteArray), .string (⟨#[52]⟩ : ByteArray)] from (k43_mkM _ _ _ (⟨(⟨#[99]⟩ : ByteArray), (⟨#[52]⟩ : ByteArray)⟩ : S43) )) (Reps.none _ _)))); intro v253 w22 ho23 hb hg_ hnew_; clear hg_ hnew_; (first | rw [← Ny252.out] at ho23 | (simp only [Int.reduceToNat] at ho23; rw [← Ny252.out] at ho23)); have n0_ := Aside0.mk (Kd.R_elder' (by (with_reducible repeat (first | apply Kd.R_alloc | apply Kd.R_drewN | apply Kd.R_drew)); exact HO251.out) (Kd.R_base ho23) hb); have n1_ := Aside0.mk (Kd.R_lower (Kd.R_new' ho23 (Kd.R_lt (by (with_reducible repeat (first | apply Kd.R_alloc | apply Kd.R_drewN | apply Kd.R_drew)); exact HO251.out))) (below_size (by repeat (first | (with_reducible first | exact HB.out | apply below_alloc | apply pw_below_drewN | apply below_drew1) | exact HB.out)))); have n2_ := Aside0.mk (below_step (by repeat (first | (with_reducible first | exact HB.out | apply below_alloc | apply pw_below_drewN | apply below_drew1) | exact HB.out)) hb); clear HO251; clear HB; have HO251 := n0_; have HO254 := n1_; have HB := n2_; clear n0_ n1_ n2_; clear hb ho23; obtain ⟨Ao24, co24, eo24⟩ := Kd.R_slice HO251.out; subst eo24; obtain ⟨Ao25, co25, eo25⟩ := Kd.R_slice HO254.out; subst eo25) | ((with_reducible refine gate_callee (f := 22) rfl ?_); refine goesL_ (some 22) rfl rfl Try.func22 (by kernel_rfl) rfl #[.slice Ao24 y249.length co24, .slice Ao25 y252.length co25] rfl (by (try simp only [List.map_toArray, List.map_cons, List.map_nil]); first | done | rfl | (simp only [List.length_drop, List.length_take]; rfl)) ?_; (with_reducible refine (item_Diff.calls k (fun k_ => some k_ = (.slice Ao24 y249.length co24 : Value).ownBlock) _ _ y249 (fun k_ => some k_ = (.slice Ao25 y252.length co25 : Value).ownBlock) _ _ y252 t255 t258 _ ?side1 ?side2 A1.out).mono ?_); (case side1 => exact Kd.R_V (Kd.R_tight rfl (HO251.out))); (case side2 => exact Kd.R_V (Kd.R_tight rfl (HO254.out))); rintro e w26 ⟨v256, rfl, ho0, hb⟩; refine ⟨_, rfl, ?_⟩; have n0_ := Aside0.mk (Kd.R_below (by (with_reducible repeat (first | apply Kd.R_alloc | apply Kd.R_drewN | apply Kd.R_drew)); exact HO251.out) hb); have n1_ := Aside0.mk (Kd.R_below (by (with_reducible repeat (first | apply Kd.R_alloc | apply Kd.R_drewN | apply Kd.R_drew)); exact HO254.out) hb); have n2_ := Aside0.mk (Kd.R_lower (Kd.R_mono (ok' := fun k_ => True) ho0 (fun _ hk_ => trivial)) (below_size (by repeat (first | (with_reducible first | exact HB.out | apply below_alloc | apply pw_below_drewN | apply below_drew1) | exact HB.out)))); have n3_ := Aside0.mk (below_step (by repeat (first | (with_reducible first | exact HB.out | apply below_alloc | apply pw_below_drewN | apply below_drew1) | exact HB.out)) hb); clear HO251; clear HO254; clear HB; have HO251 := n0_; have HO254 := n1_; have HO257 := n2_; have HB := n3_; clear n0_ n1_ n2_ n3_; (try clear hb); (try clear hb2); (try clear hk); (try clear hi); (try clear ho0); obtain ⟨Ao27, co27, eo27⟩ := Kd.R_slice HO257.out; subst eo27) | ((with_reducible refine gate_callee (f := 20) rfl ?_); refine goesL_ (some 28) rfl rfl Try.func20 (by kernel_rfl) rfl #[.slice Ao24 y249.length co24, .slice Ao27 t255.length co27] rfl (by (try simp only [List.map_toArray, List.map_cons, List.map_nil]); first | done | rfl | (simp only [List.length_drop, List.length_take]; rfl)) ?_; (with_reducible refine (item_Apply.calls k _ _ y249 _ _ t255 t259 t260 _ ?side1 ?side2 ?side3 ?side4 A2.out).mono ?_); (case side1 => repeat (first | exact (Kd.R_reads' HO251.out).2.2 | (with_reducible refine Kd.C_alloc ?_ _) | (with_reducible refine Kd.C_drewN ?_ _) | (with_reducible refine Kd.C_drew ?_))); (case side2 => exact (Kd.R_reads' HO251.out).2.1); (case side3 => repeat (first | exact (Kd.R_reads' HO257.out).2.2 | (with_reducible refine Kd.C_alloc ?_ _) | (with_reducible refine Kd.C_drewN ?_ _) | (with_reducible refine Kd.C_drew ?_))); (case side4 => exact (Kd.R_reads' HO257.out).2.1); rintro e w28 ⟨v261, rfl, ho0, hb⟩; refine ⟨_, rfl, ?_⟩; have n0_ := Aside0.mk (Kd.R_elder' (by (with_reducible repeat (first | apply Kd.R_alloc | apply Kd.R_drewN | apply Kd.R_drew)); exact HO251.out) (Kd.R_base ho0) hb); have n1_ := Aside0.mk (Kd.R_elder' (by (with_reducible repeat (first | apply Kd.R_alloc | apply Kd.R_drewN | apply Kd.R_drew)); exact HO254.out) (Kd.R_base ho0) hb); have n2_ := Aside0.mk (Kd.R_below (by (with_reducible repeat (first | apply Kd.R_alloc | apply Kd.R_drewN | apply Kd.R_drew)); exact HO257.out) hb); have n3_ := Aside0.mk (Kd.R_lower (Kd.R_new' (Kd.R_new' ho0 (Kd.R_lt (by (with_reducible repeat (first | apply Kd.R_alloc | apply Kd.R_drewN | apply Kd.R_drew)); exact HO251.out))) (Kd.R_lt (by (with_reducible repeat (first | apply Kd.R_alloc | apply Kd.R_drewN | apply Kd.R_drew)); exact HO254.out))) (below_size (by repeat (first | (with_reducible first | exact HB.out | apply below_alloc | apply pw_below_drewN | apply below_drew1) | exact HB.out)))); have n4_ := Aside0.mk (below_step (by repeat (first | (with_reducible first | exact HB.out | apply below_alloc | apply pw_below_drewN | apply below_drew1) | exact HB.out)) hb); clear HO251; clear HO254; clear HO257; clear HB; have HO251 := n0_; have HO254 := n1_; have HO257 := n2_; have HO262 := n3_; have HB := n4_; clear n0_ n1_ n2_ n3_ n4_; (try clear hb); (try clear hb2); (try clear hk); (try clear hi); (try clear ho0); obtain ⟨Ao29, co29, eo29⟩ := Kd.R_slice HO262.out; subst eo29) | ((with_reducible refine gate_callee (f := 12) rfl ?_); refine goesL_ (some 33) rfl rfl Try.func12 (by kernel_rfl) rfl #[.slice Ao29 t259.length co29, .string (⟨#[99]⟩ : ByteArray)] rfl (by (try simp only [List.map_toArray, List.map_cons, List.map_nil]); first | done | rfl | (simp only [List.length_drop, List.length_take]; rfl)) ?_; (with_reducible refine (item_Get.calls k _ _ t259 (⟨#[99]⟩ : ByteArray) t263 t264 _ ?side1 ?side2 A3.out).mono ?_); (case side1 => repeat (first | exact (Kd.R_reads' HO262.out).2.2 | (with_reducible refine Kd.C_alloc ?_ _) | (with_reducible refine Kd.C_drewN ?_ _) | (with_reducible refine Kd.C_drew ?_))); (case side2 => exact (Kd.R_reads' HO262.out).2.1); rintro e w30 ⟨rfl, hb⟩; refine ⟨_, rfl, ?_⟩; have n0_ := Aside0.mk (Kd.R_below (by (with_reducible repeat (first | apply Kd.R_alloc | apply Kd.R_drewN | apply Kd.R_drew)); exact HO251.out) hb); have n1_ := Aside0.mk (Kd.R_below (by (with_reducible repeat (first | apply Kd.R_alloc | apply Kd.R_drewN | apply Kd.R_drew)); exact HO254.out) hb); have n2_ := Aside0.mk (Kd.R_below (by (with_reducible repeat (first | apply Kd.R_alloc | apply Kd.R_drewN | apply Kd.R_drew)); exact HO257.out) hb); have n3_ := Aside0.mk (Kd.R_below (by (with_reducible repeat (first | apply Kd.R_alloc | apply Kd.R_drewN | apply Kd.R_drew)); exact HO262.out) hb); have n4_ := Aside0.mk (below_step (by repeat (first | (with_reducible first | exact HB.out | apply below_alloc | apply pw_below_drewN | apply below_drew1) | exact HB.out)) hb); clear HO251; clear HO254; clear HO257; clear HO262; clear HB; have HO251 := n0_; have HO254 := n1_; have HO257 := n2_; have HO262 := n3_; have HB := n4_; clear n0_ n1_ n2_ n3_ n4_; (try clear hb); (try clear hb2); (try clear hk); (try clear hi)) | ((with_reducible refine gate_callee (f := 14) rfl ?_); refine goesL_ (some 38) rfl rfl Try.func14 (by kernel_rfl) rfl #[.slice Ao24 y249.length co24, .string (⟨#[98]⟩ : ByteArray)] rfl (by (try simp only [List.map_toArray, List.map_cons, List.map_nil]); first | done | rfl | (simp only [List.length_drop, List.length_take]; rfl)) ?_; (with_reducible refine (item_Under.calls k _ _ y249 (⟨#[98]⟩ : ByteArray) t265 t266 _ ?side1 ?side2 A4.out).mono ?_); (case side1 => repeat (first | exact (Kd.R_reads' HO251.out).2.2 | (with_reducible refine Kd.C_alloc ?_ _) | (with_reducible refine Kd.C_drewN ?_ _) | (with_reducible refine Kd.C_drew ?_))); (case side2 => exact (Kd.R_reads' HO251.out).2.1); rintro e w31 ⟨v267, rfl, ho0, hb⟩; refine ⟨_, rfl, ?_⟩; have n0_ := Aside0.mk (Kd.R_elder' (by (with_reducible repeat (first | apply Kd.R_alloc | apply Kd.R_drewN | apply Kd.R_drew)); exact HO251.out) (Kd.R_base ho0) hb); have n1_ := Aside0.mk (Kd.R_elder' (by (with_reducible repeat (first | apply Kd.R_alloc | apply Kd.R_drewN | apply Kd.R_drew)); exact HO254.out) (Kd.R_base ho0) hb); have n2_ := Aside0.mk (Kd.R_below (by (with_reducible repeat (first | apply Kd.R_alloc | apply Kd.R_drewN | apply Kd.R_drew)); exact HO257.out) hb); have n3_ := Aside0.mk (Kd.R_elder' (by (with_reducible repeat (first | apply Kd.R_alloc | apply Kd.R_drewN | apply Kd.R_drew)); exact HO262.out) (Kd.R_base ho0) hb); have n4_ := Aside0.mk (Kd.R_lower (Kd.R_new' (Kd.R_new' (Kd.R_new' ho0 (Kd.R_lt (by (with_reducible repeat (first | apply Kd.R_alloc | apply Kd.R_drewN | apply Kd.R_drew)); exact HO251.out))) (Kd.R_lt (by (with_reducible repeat (first | apply Kd.R_alloc | apply Kd.R_drewN | apply Kd.R_drew)); exact HO254.out))) (Kd.R_lt (by (with_reducible repeat (first | apply Kd.R_alloc | apply Kd.R_drewN | apply Kd.R_drew)); exact HO262.out))) (below_size (by repeat (first | (with_reducible first | exact HB.out | apply below_alloc | apply pw_below_drewN | apply below_drew1) | exact HB.out)))); have n5_ := Aside0.mk (below_step (by repeat (first | (with_reducible first | exact HB.out | apply below_alloc | apply pw_below_drewN | apply below_drew1) | exact HB.out)) hb); clear HO251; clear HO254; clear HO257; clear HO262; clear HB; have HO251 := n0_; have HO254 := n1_; have HO257 := n2_; have HO262 := n3_; have HO268 := n4_; have HB := n5_; clear n0_ n1_ n2_ n3_ n4_ n5_; (try clear hb); (try clear hb2); (try clear hk); (try clear hi); (try clear ho0)) | ((with_reducible refine gate_callee (f := 12) rfl ?_); refine goesL_ (some 43) rfl rfl Try.func12 (by kernel_rfl) rfl #[.slice Ao24 y249.length co24, .string (⟨#[99]⟩ : ByteArray)] rfl (by (try simp only [List.map_toArray, List.map_cons, List.map_nil]); first | done | rfl | (simp only [List.length_drop, List.length_take]; rfl)) ?_; (with_reducible refine (item_Get.calls k _ _ y249 (⟨#[99]⟩ : ByteArray) t269 t270 _ ?side1 ?side2 A5.out).mono ?_); (case side1 => repeat (first | exact (Kd.R_reads' HO251.out).2.2 | (with_reducible refine Kd.C_alloc ?_ _) | (with_reducible refine Kd.C_drewN ?_ _) | (with_reducible refine Kd.C_drew ?_))); (case side2 => exact (Kd.R_reads' HO251.out).2.1); rintro e w32 ⟨rfl, hb⟩; refine ⟨_, rfl, ?_⟩; have n0_ := Aside0.mk (Kd.R_below (by (with_reducible repeat (first | apply Kd.R_alloc | apply Kd.R_drewN | apply Kd.R_drew)); exact HO251.out) hb); have n1_ := Aside0.mk (Kd.R_below (by (with_reducible repeat (first | apply Kd.R_alloc | apply Kd.R_drewN | apply Kd.R_drew)); exact HO254.out) hb); have n2_ := Aside0.mk (Kd.R_below (by (with_reducible repeat (first | apply Kd.R_alloc | apply Kd.R_drewN | apply Kd.R_drew)); exact HO257.out) hb); have n3_ := Aside0.mk (Kd.R_below (by (with_reducible repeat (first | apply Kd.R_alloc | apply Kd.R_drewN | apply Kd.R_drew)); exact HO262.out) hb); have n4_ := Aside0.mk (Kd.R_below (by (with_reducible repeat (first | apply Kd.R_alloc | apply Kd.R_drewN | apply Kd.R_drew)); exact HO268.out) hb); have n5_ := Aside0.mk (below_step (by repeat (first | (with_reducible first | exact HB.out | apply below_alloc | apply pw_below_drewN | apply below_drew1) | exact HB.out)) hb); clear HO251; clear HO254; clear HO257; clear HO262; clear HO268; clear HB; have HO251 := n0_; have HO254 := n1_; have HO257 := n2_; have HO262 := n3_; have HO268 := n4_; have HB := n5_; clear n0_ n1_ n2_ n3_ n4_ n5_; (try clear hb); (try clear hb2); (try clear hk); (try clear hi); have p271 : 0 ≤ (0 : Int) := (by omega); have q271 : 0 < (t255.length : Int) := of_decide_eq_true (by first | (with_reducible assumption) | assumption); obtain ⟨ad271, e271, hx271_0, hx271_1, hx271_2⟩ := at_T39 (Kd.R_reads' HO257.out).2.2 0 p271 q271; (try rw [← Nbq8.out] at hx271_1); cases e271; have qi271 : (0 < t255.length) = True := eq_true (by omega); (try rw [show ((0 : Int)).toNat = 0 from rfl] at hx271_0); (try rw [show 0 * 3 = 0 from rfl] at hx271_0); (try rw [Addr.add_zero'] at hx271_0); (try rw [show ((0 : Int)).toNat = 0 from rfl] at hx271_1); (try rw [show 0 * 3 = 0 from rfl] at hx271_1); (try rw [Addr.add_zero'] at hx271_1); (try rw [show ((0 : Int)).toNat = 0 from rfl] at hx271_2); (try rw [show 0 * 3 = 0 from rfl] at hx271_2); (try rw [Addr.add_zero'] at hx271_2); replace p271 := eq_true p271; replace q271 := eq_true q271; have p272 : 0 ≤ (2 : Int) := (by omega); have q272 : 2 < (t255.length : Int) := of_decide_eq_true (by first | (with_reducible assumption) | assumption); obtain ⟨ad272, e272, hx272_0, hx272_1, hx272_2⟩ := at_T39 (Kd.R_reads' HO257.out).2.2 2 p272 q272; (try rw [← Nbq8.out] at hx272_1); obtain rfl : ad271 = ad272 := (by injection e272); (try simp only [show (2 : Int).toNat = 2 from rfl, Nat.reduceMul, Nat.reduceEqDiff, Go.Addr.add, ↓reduceIte] at hx272_0); (try simp only [show (2 : Int).toNat = 2 from rfl, Nat.reduceMul, Nat.reduceEqDiff, Go.Addr.add, ↓reduceIte] at hx272_1); (try simp only [show (2 : Int).toNat = 2 from rfl, Nat.reduceMul, Nat.reduceEqDiff, Go.Addr.add, ↓reduceIte] at hx272_2); have qi272 : (2 < t255.length) = True := eq_true (by omega); (try rw [show ((2 : Int)).toNat = 2 from rfl] at hx272_0); (try rw [show 2 * 3 = 6 from rfl] at hx272_0); (try rw [show ((2 : Int)).toNat = 2 from rfl] at hx272_1); (try rw [show 2 * 3 = 6 from rfl] at hx272_1); (try rw [show ((2 : Int)).toNat = 2 from rfl] at hx272_2); (try rw [show 2 * 3 = 6 from rfl] at hx272_2); replace p272 := eq_true p272; replace q272 := eq_true q272) | (go_at_call 17; (with_reducible refine (cambiumref04_Same.calls k _ _ y252 _ _ t259 true _ ?side1 ?side2 ?side3 ?side4 A13.out).mono ?_); (case side1 => repeat (first | exact (Kd.R_reads' HO254.out).2.2 | (with_reducible refine Kd.C_alloc ?_ _) | (with_reducible refine Kd.C_drewN ?_ _) | (with_reducible refine Kd.C_drew ?_))); (case side2 => exact (Kd.R_reads' HO254.out).2.1); (case side3 => repeat (first | exact (Kd.R_reads' HO262.out).2.2 | (with_reducible refine Kd.C_alloc ?_ _) | (with_reducible refine Kd.C_drewN ?_ _) | (with_reducible refine Kd.C_drew ?_))); (case side4 => exact (Kd.R_reads' HO262.out).2.1); rintro e w' ⟨rfl, ⟨nd, rfl⟩⟩; obtain ⟨Ao33, co33, eo33⟩ := Kd.R_slice HO268.out; subst eo33))
                          go_ret
                          exact ⟨by first | rfl | (simp [errW_none, errW_some] <;> rfl) | (simp [*, errW_none, errW_some] <;> rfl), by repeat (first | (with_reducible first | exact HB.out | apply below_alloc | apply pw_below_drewN | apply below_drew1) | exact HB.out)⟩
                        · rw [if_neg c19] at H
                          have c19b0 : (t266 == 0) = false := beq_eq_false_iff_ne.mpr c19
                          have c19b1 : (t266 != 0) = true := bne_iff_ne.mpr c19
                          exact absurd ((Option.some.inj H).trans HT_.out) (by simp)
                      · rw [if_neg c18] at H
                        have c18b0 : ((t265.length : Int) == 1) = false := beq_eq_false_iff_ne.mpr c18
                        have c18b1 : ((t265.length : Int) != 1) = true := bne_iff_ne.mpr c18
                        exact absurd ((Option.some.inj H).trans HT_.out) (by simp)
                    · rw [if_neg c17] at H
                      have c17b0 : (t264 == 0) = false := beq_eq_false_iff_ne.mpr c17
                      have c17b1 : (t264 != 0) = true := bne_iff_ne.mpr c17
                      exact absurd ((Option.some.inj H).trans HT_.out) (by simp)
                  · rw [if_neg c16] at H
                    have c16b0 : (t263.toList == ([52] : List UInt8)) = false := beq_eq_false_iff_ne.mpr c16
                    have c16b1 : (t263.toList != ([52] : List UInt8)) = true := bne_iff_ne.mpr c16
                    exact absurd ((Option.some.inj H).trans HT_.out) (by simp)
                · rw [if_neg c15] at H
                  have c15b0 : (t260 == 0) = false := beq_eq_false_iff_ne.mpr c15
                  have c15b1 : (t260 != 0) = true := bne_iff_ne.mpr c15
                  exact absurd ((Option.some.inj H).trans HT_.out) (by simp)
              · replace c14 := Bool.eq_false_iff.mpr c14
                subst c14
                have H1 : (some false) = some r := by rw [if_neg (show ¬ (false = true) by decide)] at H; exact H
                clear H
                have H := H1
                clear H1
                exact absurd ((Option.some.inj H).trans HT_.out) (by simp)
            · rw [if_neg c12] at H
              have c12b0 : (t258 == 0) = false := beq_eq_false_iff_ne.mpr c12
              have c12b1 : (t258 != 0) = true := bne_iff_ne.mpr c12
              exact absurd ((Option.some.inj H).trans HT_.out) (by simp)
          · rw [if_neg c11] at H
            have c11b0 : (((rd_T39 t255 2).f2).toList == ([52] : List UInt8)) = false := beq_eq_false_iff_ne.mpr c11
            have c11b1 : (((rd_T39 t255 2).f2).toList != ([52] : List UInt8)) = true := bne_iff_ne.mpr c11
            exact absurd ((Option.some.inj H).trans HT_.out) (by simp)
        · rw [if_neg c10] at H
          exact absurd H (by simp)
    · rw [if_neg c7] at H
      exact absurd H (by simp)
  · rw [if_neg c6] at H
    have c6b0 : ((t255.length : Int) == 3) = false := beq_eq_false_iff_ne.mpr c6
    have c6b1 : ((t255.length : Int) != 3) = true := bne_iff_ne.mpr c6
    exact absurd ((Option.some.inj H).trans HT_.out) (by simp)

end Go.Proofs.Ytdahmaepfmcpbaa.Z
end

section
-- Printed by a program of this session (mp.py) out of the translation.
namespace Go.Proofs.Ytdahmaepfmcpbaa.Z
open Go.RowKit Go.Proofs.YtdahmaepfmcpbaaW.PrintWords Go.Proofs.YtdahmaepfmcpbaaW.PrintLast Go.Proofs.YtdahmaepfmcpbaaW.PrintMore
attribute [local go_sem] max2_int min2_int max_two min_two max_three min_three max_four min_four   -- for this text's walks alone
set_option linter.unusedVariables false
set_option linter.unusedSimpArgs false

attribute [local go_sem high] eqA43
/-! ### cambiumlaw04_ItemUnder: function 8 -/
mutual
def cambiumlaw04_ItemUnder.l0 : Nat → List (S43) → ByteArray → List (S43) → List (S43) → Int → Int → List (S43) → Int → Int → Option (Bool)
  | 0, _, _, _, _, _, _, _, _, _ => none
  | k + 1, x0, x1, x5, x7, x8, x9, x37, x38, x39 => if x39 < x38 then (if 0 ≤ x39 then (if x39 < (x37.length : Int) then (if (((rd_T43 x37 x39).f0).size : Int) < (x1.size : Int) then (cambiumlaw04_ItemUnder.j1 k x0 x1 x5 x7 x8 x9 x37 x38 x39 true ((rd_T43 x37 x39).f0) ((rd_T43 x37 x39).f1)) else (if 0 ≤ (x1.size : Int) then (if (x1.size : Int) ≤ (((rd_T43 x37 x39).f0).size : Int) then (cambiumlaw04_ItemUnder.j1 k x0 x1 x5 x7 x8 x9 x37 x38 x39 ((((rd_T43 x37 x39).f0).extract 0 ((x1.size : Int) : Int).toNat).toList != x1.toList) ((rd_T43 x37 x39).f0) ((rd_T43 x37 x39).f1)) else (none)) else (none))) else (none)) else (none)) else (if x9 = (x5.length : Int) then (if x8 = 0 then ((cambiumref04_Same.f k x7 x0).bind fun t422 => (some t422)) else (some false)) else (some false))
def cambiumlaw04_ItemUnder.j1 : Nat → List (S43) → ByteArray → List (S43) → List (S43) → Int → Int → List (S43) → Int → Int → Bool → ByteArray → ByteArray → Option (Bool)
  | 0, _, _, _, _, _, _, _, _, _, _, _, _ => none
  | k + 1, x0, x1, x5, x7, x8, x9, x37, x38, x39, x57, x425000, x425001 => if x57 = true then (cambiumlaw04_ItemUnder.l0 k x0 x1 x5 x7 x8 x9 x37 x38 (wrap64 (x39 + 1))) else ((item_Get.f k x0 x425000).bind fun bt425 => (if x9 ≥ (x5.length : Int) then (some false) else (if 0 ≤ x9 then (if x9 < (x5.length : Int) then (if (!((((rd_T43 x5 x9).f0).toList) == x425000.toList) || (!((((rd_T43 x5 x9).f1).toList) == x425001.toList))) = true then (some false) else (if bt425.1.toList = x425001.toList then (if bt425.2 = 0 then (cambiumlaw04_ItemUnder.l0 k x0 x1 x5 x7 x8 (wrap64 (x9 + 1)) x37 x38 (wrap64 (x39 + 1))) else (some false)) else (some false))) else (none)) else (none))))
end
def cambiumlaw04_ItemUnder.f (k : Nat) (l0 : List (S43)) (a1 : ByteArray) : Option (Bool) := (cambiumlaw04_lives.f k).bind fun t413 => (if t413 = true then ((item_Under.f k l0 a1).bind fun bt414 => ((item_Under.f k l0 (⟨#[]⟩ : ByteArray)).bind fun bt418 => (if bt414.2 = 0 then (cambiumlaw04_ItemUnder.l0 k l0 a1 bt414.1 bt418.1 bt418.2 0 l0 (l0.length : Int) 0) else (if bt418.2 = bt414.2 then (some ((bt414.1.length : Int) == 0)) else (some false))))) else (some false))
theorem cambiumlaw04_ItemUnder.mono_l : ∀ k, (∀ y0 y1 y2 y3 y4 y5 y6 y7 y8, LeO (cambiumlaw04_ItemUnder.l0 k y0 y1 y2 y3 y4 y5 y6 y7 y8) (cambiumlaw04_ItemUnder.l0 (k + 1) y0 y1 y2 y3 y4 y5 y6 y7 y8)) ∧ (∀ y0 y1 y2 y3 y4 y5 y6 y7 y8 y9 y10 y11, LeO (cambiumlaw04_ItemUnder.j1 k y0 y1 y2 y3 y4 y5 y6 y7 y8 y9 y10 y11) (cambiumlaw04_ItemUnder.j1 (k + 1) y0 y1 y2 y3 y4 y5 y6 y7 y8 y9 y10 y11))
  | 0 => ⟨fun _ _ _ _ _ _ _ _ _ r h => by simp [cambiumlaw04_ItemUnder.l0] at h, fun _ _ _ _ _ _ _ _ _ _ _ _ r h => by simp [cambiumlaw04_ItemUnder.j1] at h⟩
  | k + 1 => by
    obtain ⟨ih0, ih1⟩ := cambiumlaw04_ItemUnder.mono_l k
    refine ⟨?_, ?_⟩
    · intro y0 y1 y2 y3 y4 y5 y6 y7 y8
      unfold cambiumlaw04_ItemUnder.l0
      repeat' first
      | (with_reducible exact ih0 _ _ _ _ _ _ _ _ _)
      | (with_reducible exact ih1 _ _ _ _ _ _ _ _ _ _ _ _)
      | (with_reducible exact cambiumlaw04_lives.mono _)
      | (with_reducible exact cambiumref04_Same.mono _ _ _)
      | (with_reducible exact item_Get.mono _ _ _)
      | (with_reducible exact item_Under.mono _ _ _)
      | (with_reducible exact LeO.refl _)
      | (with_reducible exact LeO.none _)
      | (with_reducible refine LeO.ite ?_ ?_)
      | (with_reducible refine LeO.bind ?_ (fun _ => ?_))
      | exact ih0 _ _ _ _ _ _ _ _ _
      | exact ih1 _ _ _ _ _ _ _ _ _ _ _ _
      | exact cambiumlaw04_lives.mono _
      | exact cambiumref04_Same.mono _ _ _
      | exact item_Get.mono _ _ _
      | exact item_Under.mono _ _ _
      | exact LeO.none _
      | refine LeO.ite ?_ ?_
      | refine LeO.bind ?_ (fun _ => ?_)
    · intro y0 y1 y2 y3 y4 y5 y6 y7 y8 y9 y10 y11
      unfold cambiumlaw04_ItemUnder.j1
      repeat' first
      | (with_reducible exact ih0 _ _ _ _ _ _ _ _ _)
      | (with_reducible exact ih1 _ _ _ _ _ _ _ _ _ _ _ _)
      | (with_reducible exact cambiumlaw04_lives.mono _)
      | (with_reducible exact cambiumref04_Same.mono _ _ _)
      | (with_reducible exact item_Get.mono _ _ _)
      | (with_reducible exact item_Under.mono _ _ _)
      | (with_reducible exact LeO.refl _)
      | (with_reducible exact LeO.none _)
      | (with_reducible refine LeO.ite ?_ ?_)
      | (with_reducible refine LeO.bind ?_ (fun _ => ?_))
      | exact ih0 _ _ _ _ _ _ _ _ _
      | exact ih1 _ _ _ _ _ _ _ _ _ _ _ _
      | exact cambiumlaw04_lives.mono _
      | exact cambiumref04_Same.mono _ _ _
      | exact item_Get.mono _ _ _
      | exact item_Under.mono _ _ _
      | exact LeO.none _
      | refine LeO.ite ?_ ?_
      | refine LeO.bind ?_ (fun _ => ?_)
theorem cambiumlaw04_ItemUnder.mono : ∀ a0 a1 k, LeO (cambiumlaw04_ItemUnder.f k a0 a1) (cambiumlaw04_ItemUnder.f (k + 1) a0 a1) := by
  intro a0 a1 k
  obtain ⟨ih0, ih1⟩ := cambiumlaw04_ItemUnder.mono_l k
  unfold cambiumlaw04_ItemUnder.f
  repeat' first
      | (with_reducible exact ih0 _ _ _ _ _ _ _ _ _)
      | (with_reducible exact ih1 _ _ _ _ _ _ _ _ _ _ _ _)
      | (with_reducible exact cambiumlaw04_lives.mono _)
      | (with_reducible exact cambiumref04_Same.mono _ _ _)
      | (with_reducible exact item_Get.mono _ _ _)
      | (with_reducible exact item_Under.mono _ _ _)
      | (with_reducible exact LeO.refl _)
      | (with_reducible exact LeO.none _)
      | (with_reducible refine LeO.ite ?_ ?_)
      | (with_reducible refine LeO.bind ?_ (fun _ => ?_))
      | exact ih0 _ _ _ _ _ _ _ _ _
      | exact ih1 _ _ _ _ _ _ _ _ _ _ _ _
      | exact cambiumlaw04_lives.mono _
      | exact cambiumref04_Same.mono _ _ _
      | exact item_Get.mono _ _ _
      | exact item_Under.mono _ _ _
      | exact LeO.none _
      | refine LeO.ite ?_ ?_
      | refine LeO.bind ?_ (fun _ => ?_)
set_option maxHeartbeats 8000000 in
set_option maxRecDepth 100000 in
theorem cambiumlaw04_ItemUnder.calls (k : Nat) (A0 : Option Addr) (c0 : Nat) (l0 : List (S43)) (a1 : ByteArray) (r : Bool) (w : World) (hr0 : Kd.C k43 w A0 l0.length l0) (hc0 : l0.length ≤ c0) (h : cambiumlaw04_ItemUnder.f k l0 a1 = some r) (hT_ : r = true := by rfl) :
    Calls Try.prog 8 #[.slice A0 l0.length c0, .string a1] w fun e w' => e = .returned (.bool r) ∧ Below w.heap.size w w' := by
  have HT_ := Aside0.mk hT_
  clear hT_
  have hu43 := Try.underlying43
  have HR0 := Aside0.mk hr0
  have HC0 := Aside0.mk hc0
  clear hr0 hc0
  have HB := Aside0.mk (Below.refl w.heap.size w)
  have H : ((cambiumlaw04_lives.f k).bind fun t413 => (if t413 = true then ((item_Under.f k l0 a1).bind fun bt414 => ((item_Under.f k l0 (⟨#[]⟩ : ByteArray)).bind fun bt418 => (if bt414.2 = 0 then (cambiumlaw04_ItemUnder.l0 k l0 a1 bt414.1 bt418.1 bt418.2 0 l0 (l0.length : Int) 0) else (if bt418.2 = bt414.2 then (some ((bt414.1.length : Int) == 0)) else (some false))))) else (some false))) = some r := h
  clear h
  replace H := Option.bind_eq_some_iff.mp H
  obtain ⟨t413, A30, H⟩ := H
  replace H : (if t413 = true then ((item_Under.f k l0 a1).bind fun bt414 => ((item_Under.f k l0 (⟨#[]⟩ : ByteArray)).bind fun bt418 => (if bt414.2 = 0 then (cambiumlaw04_ItemUnder.l0 k l0 a1 bt414.1 bt418.1 bt418.2 0 l0 (l0.length : Int) 0) else (if bt418.2 = bt414.2 then (some ((bt414.1.length : Int) == 0)) else (some false))))) else (some false)) = some r := H
  have A3 := Aside0.mk A30
  clear A30
  by_cases c4 : t413 = true
  · subst c4
    have H1 : ((item_Under.f k l0 a1).bind fun bt414 => ((item_Under.f k l0 (⟨#[]⟩ : ByteArray)).bind fun bt418 => (if bt414.2 = 0 then (cambiumlaw04_ItemUnder.l0 k l0 a1 bt414.1 bt418.1 bt418.2 0 l0 (l0.length : Int) 0) else (if bt418.2 = bt414.2 then (some ((bt414.1.length : Int) == 0)) else (some false))))) = some r := by rw [if_pos rfl] at H; exact H
    clear H
    have H := H1
    clear H1
    replace H := Option.bind_eq_some_iff.mp H
    obtain ⟨⟨t414, t415⟩, A50, H⟩ := H
    replace H : ((item_Under.f k l0 (⟨#[]⟩ : ByteArray)).bind fun bt418 => (if t415 = 0 then (cambiumlaw04_ItemUnder.l0 k l0 a1 t414 bt418.1 bt418.2 0 l0 (l0.length : Int) 0) else (if bt418.2 = t415 then (some ((t414.length : Int) == 0)) else (some false)))) = some r := H
    have A5 := Aside0.mk A50
    clear A50
    replace H := Option.bind_eq_some_iff.mp H
    obtain ⟨⟨t418, t419⟩, A60, H⟩ := H
    replace H : (if t415 = 0 then (cambiumlaw04_ItemUnder.l0 k l0 a1 t414 t418 t419 0 l0 (l0.length : Int) 0) else (if t419 = t415 then (some ((t414.length : Int) == 0)) else (some false))) = some r := H
    have A6 := Aside0.mk A60
    clear A60
    by_cases c7 : t415 = 0
    · rw [if_pos c7] at H
      have c7b0 : (t415 == 0) = true := beq_iff_eq.mpr c7
      have c7b1 : (t415 != 0) = false := bne_eq_false_iff_eq.mpr c7
      clear c7
      have H' := Aside0.mk H
      clear H
      go_enter Try.func8, Try.ntmps8
      go_wp2_with (first | (go_at_call 16; (with_reducible refine (cambiumlaw04_lives.calls k  true _ A3.out).mono ?_); rintro e w8 ⟨rfl, hb⟩; have n0_ := Aside0.mk (below_step (by repeat (first | (with_reducible first | exact HB.out | apply below_alloc | apply pw_below_drewN | apply below_drew1) | exact HB.out)) hb); clear HB; have HB := n0_; clear n0_; (try clear hb); (try clear hb2); (try clear hk); (try clear hi)) | (go_at_call 14; (with_reducible refine (item_Under.calls k _ _ l0 a1 t414 t415 _ ?side1 ?side2 A5.out).mono ?_); (case side1 => repeat (first | exact (Kd.C_below HR0.out HB.out) | (with_reducible refine Kd.C_alloc ?_ _) | (with_reducible refine Kd.C_drewN ?_ _) | (with_reducible refine Kd.C_drew ?_))); (case side2 => exact HC0.out); rintro e w9 ⟨v416, rfl, ho0, hb⟩; have n0_ := Aside0.mk (Kd.R_lower ho0 (below_size (by repeat (first | (with_reducible first | exact HB.out | apply below_alloc | apply pw_below_drewN | apply below_drew1) | exact HB.out)))); have n1_ := Aside0.mk (below_step (by repeat (first | (with_reducible first | exact HB.out | apply below_alloc | apply pw_below_drewN | apply below_drew1) | exact HB.out)) hb); clear HB; have HO417 := n0_; have HB := n1_; clear n0_ n1_; (try clear hb); (try clear hb2); (try clear hk); (try clear hi); (try clear ho0)) | (go_at_call 14; (with_reducible refine (item_Under.calls k _ _ l0 (⟨#[]⟩ : ByteArray) t418 t419 _ ?side1 ?side2 A6.out).mono ?_); (case side1 => repeat (first | exact (Kd.C_below HR0.out HB.out) | (with_reducible refine Kd.C_alloc ?_ _) | (with_reducible refine Kd.C_drewN ?_ _) | (with_reducible refine Kd.C_drew ?_))); (case side2 => exact HC0.out); rintro e w10 ⟨v420, rfl, ho0, hb⟩; have n0_ := Aside0.mk (Kd.R_elder' (by (with_reducible repeat (first | apply Kd.R_alloc | apply Kd.R_drewN | apply Kd.R_drew)); exact HO417.out) (Kd.R_base ho0) hb); have n1_ := Aside0.mk (Kd.R_lower (Kd.R_new' ho0 (Kd.R_lt (by (with_reducible repeat (first | apply Kd.R_alloc | apply Kd.R_drewN | apply Kd.R_drew)); exact HO417.out))) (below_size (by repeat (first | (with_reducible first | exact HB.out | apply below_alloc | apply pw_below_drewN | apply below_drew1) | exact HB.out)))); have n2_ := Aside0.mk (below_step (by repeat (first | (with_reducible first | exact HB.out | apply below_alloc | apply pw_below_drewN | apply below_drew1) | exact HB.out)) hb); clear HO417; clear HB; have HO417 := n0_; have HO421 := n1_; have HB := n2_; clear n0_ n1_ n2_; (try clear hb); (try clear hb2); (try clear hk); (try clear hi); (try clear ho0)))
      repeat (go_quiet (first | (go_at_call 16; (with_reducible refine (cambiumlaw04_lives.calls k  true _ A3.out).mono ?_); rintro e w8 ⟨rfl, hb⟩; have n0_ := Aside0.mk (below_step (by repeat (first | (with_reducible first | exact HB.out | apply below_alloc | apply pw_below_drewN | apply below_drew1) | exact HB.out)) hb); clear HB; have HB := n0_; clear n0_; (try clear hb); (try clear hb2); (try clear hk); (try clear hi)) | (go_at_call 14; (with_reducible refine (item_Under.calls k _ _ l0 a1 t414 t415 _ ?side1 ?side2 A5.out).mono ?_); (case side1 => repeat (first | exact (Kd.C_below HR0.out HB.out) | (with_reducible refine Kd.C_alloc ?_ _) | (with_reducible refine Kd.C_drewN ?_ _) | (with_reducible refine Kd.C_drew ?_))); (case side2 => exact HC0.out); rintro e w9 ⟨v416, rfl, ho0, hb⟩; have n0_ := Aside0.mk (Kd.R_lower ho0 (below_size (by repeat (first | (with_reducible first | exact HB.out | apply below_alloc | apply pw_below_drewN | apply below_drew1) | exact HB.out)))); have n1_ := Aside0.mk (below_step (by repeat (first | (with_reducible first | exact HB.out | apply below_alloc | apply pw_below_drewN | apply below_drew1) | exact HB.out)) hb); clear HB; have HO417 := n0_; have HB := n1_; clear n0_ n1_; (try clear hb); (try clear hb2); (try clear hk); (try clear hi); (try clear ho0)) | (go_at_call 14; (with_reducible refine (item_Under.calls k _ _ l0 (⟨#[]⟩ : ByteArray) t418 t419 _ ?side1 ?side2 A6.out).mono ?_); (case side1 => repeat (first | exact (Kd.C_below HR0.out HB.out) | (with_reducible refine Kd.C_alloc ?_ _) | (with_reducible refine Kd.C_drewN ?_ _) | (with_reducible refine Kd.C_drew ?_))); (case side2 => exact HC0.out); rintro e w10 ⟨v420, rfl, ho0, hb⟩; have n0_ := Aside0.mk (Kd.R_elder' (by (with_reducible repeat (first | apply Kd.R_alloc | apply Kd.R_drewN | apply Kd.R_drew)); exact HO417.out) (Kd.R_base ho0) hb); have n1_ := Aside0.mk (Kd.R_lower (Kd.R_new' ho0 (Kd.R_lt (by (with_reducible repeat (first | apply Kd.R_alloc | apply Kd.R_drewN | apply Kd.R_drew)); exact HO417.out))) (below_size (by repeat (first | (with_reducible first | exact HB.out | apply below_alloc | apply pw_below_drewN | apply below_drew1) | exact HB.out)))); have n2_ := Aside0.mk (below_step (by repeat (first | (with_reducible first | exact HB.out | apply below_alloc | apply pw_below_drewN | apply below_drew1) | exact HB.out)) hb); clear HO417; clear HB; have HO417 := n0_; have HO421 := n1_; have HB := n2_; clear n0_ n1_ n2_; (try clear hb); (try clear hb2); (try clear hk); (try clear hi); (try clear ho0))); try go_wp2_with (first | (go_at_call 16; (with_reducible refine (cambiumlaw04_lives.calls k  true _ A3.out).mono ?_); rintro e w8 ⟨rfl, hb⟩; have n0_ := Aside0.mk (below_step (by repeat (first | (with_reducible first | exact HB.out | apply below_alloc | apply pw_below_drewN | apply below_drew1) | exact HB.out)) hb); clear HB; have HB := n0_; clear n0_; (try clear hb); (try clear hb2); (try clear hk); (try clear hi)) | (go_at_call 14; (with_reducible refine (item_Under.calls k _ _ l0 a1 t414 t415 _ ?side1 ?side2 A5.out).mono ?_); (case side1 => repeat (first | exact (Kd.C_below HR0.out HB.out) | (with_reducible refine Kd.C_alloc ?_ _) | (with_reducible refine Kd.C_drewN ?_ _) | (with_reducible refine Kd.C_drew ?_))); (case side2 => exact HC0.out); rintro e w9 ⟨v416, rfl, ho0, hb⟩; have n0_ := Aside0.mk (Kd.R_lower ho0 (below_size (by repeat (first | (with_reducible first | exact HB.out | apply below_alloc | apply pw_below_drewN | apply below_drew1) | exact HB.out)))); have n1_ := Aside0.mk (below_step (by repeat (first | (with_reducible first | exact HB.out | apply below_alloc | apply pw_below_drewN | apply below_drew1) | exact HB.out)) hb); clear HB; have HO417 := n0_; have HB := n1_; clear n0_ n1_; (try clear hb); (try clear hb2); (try clear hk); (try clear hi); (try clear ho0)) | (go_at_call 14; (with_reducible refine (item_Under.calls k _ _ l0 (⟨#[]⟩ : ByteArray) t418 t419 _ ?side1 ?side2 A6.out).mono ?_); (case side1 => repeat (first | exact (Kd.C_below HR0.out HB.out) | (with_reducible refine Kd.C_alloc ?_ _) | (with_reducible refine Kd.C_drewN ?_ _) | (with_reducible refine Kd.C_drew ?_))); (case side2 => exact HC0.out); rintro e w10 ⟨v420, rfl, ho0, hb⟩; have n0_ := Aside0.mk (Kd.R_elder' (by (with_reducible repeat (first | apply Kd.R_alloc | apply Kd.R_drewN | apply Kd.R_drew)); exact HO417.out) (Kd.R_base ho0) hb); have n1_ := Aside0.mk (Kd.R_lower (Kd.R_new' ho0 (Kd.R_lt (by (with_reducible repeat (first | apply Kd.R_alloc | apply Kd.R_drewN | apply Kd.R_drew)); exact HO417.out))) (below_size (by repeat (first | (with_reducible first | exact HB.out | apply below_alloc | apply pw_below_drewN | apply below_drew1) | exact HB.out)))); have n2_ := Aside0.mk (below_step (by repeat (first | (with_reducible first | exact HB.out | apply below_alloc | apply pw_below_drewN | apply below_drew1) | exact HB.out)) hb); clear HO417; clear HB; have HO417 := n0_; have HO421 := n1_; have HB := n2_; clear n0_ n1_ n2_; (try clear hb); (try clear hb2); (try clear hk); (try clear hi); (try clear ho0))))
      go_loopg [9, 39] k (fun kq v9 v39 w' => ∃ (x9_1 : Int) (x39_1 : Int), v9 = .int .i64 x9_1 ∧ v39 = .int .i64 x39_1 ∧ Aside0 (cambiumlaw04_ItemUnder.l0 kq l0 a1 t414 t418 t419 x9_1 l0 (l0.length : Int) x39_1 = some r) ∧ Aside0 (kq ≤ k) ∧ Aside0 (Kd.R k43 43 w' w.heap.size (fun k_ => some k_ ≠ (v420 : Value).ownBlock) v416 t414) ∧ Aside0 (Kd.R k43 43 w' w.heap.size (fun k_ => some k_ ≠ (v416 : Value).ownBlock) v420 t418) ∧ Aside0 (Below w.heap.size w w'))
      case atStart => exact ⟨(0), (0), (by first | rfl | (simp; done) | (simp [*]; done)), (by first | rfl | (simp; done) | (simp [*]; done)), H', ⟨Nat.le_refl _⟩, ⟨by (with_reducible repeat (first | apply Kd.R_alloc | apply Kd.R_drewN | apply Kd.R_drew)); exact Kd.R_mono HO417.out (fun _ hk => hk.2)⟩, ⟨by (with_reducible repeat (first | apply Kd.R_alloc | apply Kd.R_drewN | apply Kd.R_drew)); exact Kd.R_mono HO421.out (fun _ hk => hk.2)⟩, ⟨by repeat (first | (with_reducible first | exact HB.out | apply below_alloc | apply pw_below_drewN | apply below_drew1) | exact HB.out)⟩⟩
      case round =>
        clear H'
        try clear p2
        try clear c4
        try clear c7
        try clear c7b0
        try clear c7b1
        try clear c8
        obtain ⟨x9_1, x39_1, rfl, rfl, HA, HK1, HO_5, HO_7, HB⟩ := hrel
        cases gk with
        | zero => exact absurd HA.out (by simp [cambiumlaw04_ItemUnder.l0])
        | succ k1 =>
          have H := HA.out
          clear HA
          simp only [cambiumlaw04_ItemUnder.l0] at H
          by_cases c11 : x39_1 < (l0.length : Int)
          · rw [if_pos c11] at H
            have c11b0 : decide (x39_1 < (l0.length : Int)) = true := decide_eq_true c11
            clear c11
            by_cases c12 : 0 ≤ x39_1
            · rw [if_pos c12] at H
              have c12b0 : decide (0 ≤ x39_1) = true := decide_eq_true c12
              clear c12
              by_cases c13 : x39_1 < (l0.length : Int)
              · rw [if_pos c13] at H
                have c13b0 : decide (x39_1 < (l0.length : Int)) = true := decide_eq_true c13
                clear c13
                have HC14 := Aside0.mk H
                clear H
                have p423 : 0 ≤ (x39_1 : Int) := of_decide_eq_true (by first | (with_reducible assumption) | assumption)
                have q423 : x39_1 < (l0.length : Int) := of_decide_eq_true (by first | (with_reducible assumption) | assumption)
                obtain ⟨ad423, e423, hx423_0, hx423_1⟩ := at_T43 HR0.out x39_1 p423 q423
                cases e423
                replace hx423_0 := (HB.out.cell (World.block_lt_of_cell? w _ hx423_0)).trans hx423_0
                replace hx423_1 := (HB.out.cell (World.block_lt_of_cell? w _ hx423_1)).trans hx423_1
                replace p423 := eq_true p423
                replace q423 := eq_true q423
                go_upto_region 11 with (first | ((with_reducible refine gate_dst (N := 11) rfl ?_); (try (refine gate_guard (by rfl) ?_; dsimp only)); refine box_event ?hg (N := 11) ?hd (cs := #[.string (⟨#[]⟩ : ByteArray), .string (⟨#[]⟩ : ByteArray)]) (t := 43) ?hr ?_; (case hd => rfl); (case hg => rfl); (case hr => first | (go_simp; done) | (go_simp; rfl)); intro gb424 hg w15 hbox hb; have n0_ := Aside0.mk (Kd.R_below (Kd.R_elderB (by (with_reducible repeat (first | apply Kd.R_alloc | apply Kd.R_drewN | apply Kd.R_drew)); exact HO_5.out) gb424 (Nat.le_of_eq hg.symm)) hb); have n1_ := Aside0.mk (Kd.R_below (Kd.R_elderB (by (with_reducible repeat (first | apply Kd.R_alloc | apply Kd.R_drewN | apply Kd.R_drew)); exact HO_7.out) gb424 (Nat.le_of_eq hg.symm)) hb); have n2_ := Aside0.mk (below_step (by repeat (first | (with_reducible first | exact HB.out | apply below_alloc | apply pw_below_drewN | apply below_drew1) | exact HB.out)) hb); have n3_ := Aside0.mk (hbox); have n4_ := Aside0.mk ((by rw [hg]; exact (below_size (by repeat (first | (with_reducible first | exact HB.out | apply below_alloc | apply pw_below_drewN | apply below_drew1) | exact HB.out))) : w.heap.size ≤ gb424)); have n5_ := Aside0.mk ((by rw [hg]; exact (below_size (by repeat (first | (with_reducible first | exact HB.out | apply below_alloc | apply pw_below_drewN | apply below_drew1) | exact HB.out))) : w.heap.size ≤ gb424)); clear HO_5; clear HO_7; clear HB; have HO_5 := n0_; have HO_7 := n1_; have HB := n2_; have BK424 := n3_; have GW424 := n4_; have GE424 := n5_; clear n0_ n1_ n2_ n3_ n4_ n5_; clear hb hbox hg; have hcz16_0 : w15.cell? ⟨gb424, 0, none⟩ = some (.string (⟨#[]⟩ : ByteArray)) := (blk_cell BK424.out 0).trans rfl; have hcz16_1 : w15.cell? ⟨gb424, 1, none⟩ = some (.string (⟨#[]⟩ : ByteArray)) := (blk_cell BK424.out 1).trans rfl; have hfz16_0 := blk_frozen BK424.out 0; have hfz16_1 := blk_frozen BK424.out 1))
                repeat (go_quiet (first | ((with_reducible refine gate_dst (N := 11) rfl ?_); (try (refine gate_guard (by rfl) ?_; dsimp only)); refine box_event ?hg (N := 11) ?hd (cs := #[.string (⟨#[]⟩ : ByteArray), .string (⟨#[]⟩ : ByteArray)]) (t := 43) ?hr ?_; (case hd => rfl); (case hg => rfl); (case hr => first | (go_simp; done) | (go_simp; rfl)); intro gb424 hg w15 hbox hb; have n0_ := Aside0.mk (Kd.R_below (Kd.R_elderB (by (with_reducible repeat (first | apply Kd.R_alloc | apply Kd.R_drewN | apply Kd.R_drew)); exact HO_5.out) gb424 (Nat.le_of_eq hg.symm)) hb); have n1_ := Aside0.mk (Kd.R_below (Kd.R_elderB (by (with_reducible repeat (first | apply Kd.R_alloc | apply Kd.R_drewN | apply Kd.R_drew)); exact HO_7.out) gb424 (Nat.le_of_eq hg.symm)) hb); have n2_ := Aside0.mk (below_step (by repeat (first | (with_reducible first | exact HB.out | apply below_alloc | apply pw_below_drewN | apply below_drew1) | exact HB.out)) hb); have n3_ := Aside0.mk (hbox); have n4_ := Aside0.mk ((by rw [hg]; exact (below_size (by repeat (first | (with_reducible first | exact HB.out | apply below_alloc | apply pw_below_drewN | apply below_drew1) | exact HB.out))) : w.heap.size ≤ gb424)); have n5_ := Aside0.mk ((by rw [hg]; exact (below_size (by repeat (first | (with_reducible first | exact HB.out | apply below_alloc | apply pw_below_drewN | apply below_drew1) | exact HB.out))) : w.heap.size ≤ gb424)); clear HO_5; clear HO_7; clear HB; have HO_5 := n0_; have HO_7 := n1_; have HB := n2_; have BK424 := n3_; have GW424 := n4_; have GE424 := n5_; clear n0_ n1_ n2_ n3_ n4_ n5_; clear hb hbox hg; have hcz16_0 : w15.cell? ⟨gb424, 0, none⟩ = some (.string (⟨#[]⟩ : ByteArray)) := (blk_cell BK424.out 0).trans rfl; have hcz16_1 : w15.cell? ⟨gb424, 1, none⟩ = some (.string (⟨#[]⟩ : ByteArray)) := (blk_cell BK424.out 1).trans rfl; have hfz16_0 := blk_frozen BK424.out 0; have hfz16_1 := blk_frozen BK424.out 1)); go_upto_region 11 with (first | ((with_reducible refine gate_dst (N := 11) rfl ?_); (try (refine gate_guard (by rfl) ?_; dsimp only)); refine box_event ?hg (N := 11) ?hd (cs := #[.string (⟨#[]⟩ : ByteArray), .string (⟨#[]⟩ : ByteArray)]) (t := 43) ?hr ?_; (case hd => rfl); (case hg => rfl); (case hr => first | (go_simp; done) | (go_simp; rfl)); intro gb424 hg w15 hbox hb; have n0_ := Aside0.mk (Kd.R_below (Kd.R_elderB (by (with_reducible repeat (first | apply Kd.R_alloc | apply Kd.R_drewN | apply Kd.R_drew)); exact HO_5.out) gb424 (Nat.le_of_eq hg.symm)) hb); have n1_ := Aside0.mk (Kd.R_below (Kd.R_elderB (by (with_reducible repeat (first | apply Kd.R_alloc | apply Kd.R_drewN | apply Kd.R_drew)); exact HO_7.out) gb424 (Nat.le_of_eq hg.symm)) hb); have n2_ := Aside0.mk (below_step (by repeat (first | (with_reducible first | exact HB.out | apply below_alloc | apply pw_below_drewN | apply below_drew1) | exact HB.out)) hb); have n3_ := Aside0.mk (hbox); have n4_ := Aside0.mk ((by rw [hg]; exact (below_size (by repeat (first | (with_reducible first | exact HB.out | apply below_alloc | apply pw_below_drewN | apply below_drew1) | exact HB.out))) : w.heap.size ≤ gb424)); have n5_ := Aside0.mk ((by rw [hg]; exact (below_size (by repeat (first | (with_reducible first | exact HB.out | apply below_alloc | apply pw_below_drewN | apply below_drew1) | exact HB.out))) : w.heap.size ≤ gb424)); clear HO_5; clear HO_7; clear HB; have HO_5 := n0_; have HO_7 := n1_; have HB := n2_; have BK424 := n3_; have GW424 := n4_; have GE424 := n5_; clear n0_ n1_ n2_ n3_ n4_ n5_; clear hb hbox hg; have hcz16_0 : w15.cell? ⟨gb424, 0, none⟩ = some (.string (⟨#[]⟩ : ByteArray)) := (blk_cell BK424.out 0).trans rfl; have hcz16_1 : w15.cell? ⟨gb424, 1, none⟩ = some (.string (⟨#[]⟩ : ByteArray)) := (blk_cell BK424.out 1).trans rfl; have hfz16_0 := blk_frozen BK424.out 0; have hfz16_1 := blk_frozen BK424.out 1)))
                (try simp only [Act.put, List.setIfInBounds_toArray, List.set_cons_zero, List.set_cons_succ])
                go_cut [57] (fun v57 wc => ∃ (kq : Nat) (x57_13 : Bool), v57 = .bool x57_13 ∧ Aside0 (cambiumlaw04_ItemUnder.j1 kq l0 a1 t414 t418 t419 x9_1 l0 (l0.length : Int) x39_1 x57_13 ((rd_T43 l0 x39_1).f0) ((rd_T43 l0 x39_1).f1) = some r) ∧ Aside0 (kq ≤ k1) ∧ Aside0 (Kd.R k43 43 wc w.heap.size (fun k_ => some k_ ≠ (v420 : Value).ownBlock ∧ k_ ≠ gb424) v416 t414) ∧ Aside0 (Kd.R k43 43 wc w.heap.size (fun k_ => some k_ ≠ (v416 : Value).ownBlock ∧ k_ ≠ gb424) v420 t418) ∧ Aside0 (wc.heap[gb424]? = some (.cells #[.string ((rd_T43 l0 x39_1).f0), .string ((rd_T43 l0 x39_1).f1)] 43 (0, 0))) ∧ Aside0 (Below w.heap.size w wc))
                case first =>
                  have H := HC14.out
                  clear HC14
                  by_cases c17 : (((rd_T43 l0 x39_1).f0).size : Int) < (a1.size : Int)
                  · rw [if_pos c17] at H
                    have c17b0 : decide ((((rd_T43 l0 x39_1).f0).size : Int) < (a1.size : Int)) = true := decide_eq_true c17
                    have c17b1 : decide (((rd_T43 l0 x39_1).f0).size < a1.size) = true := decide_eq_true (Int.ofNat_lt.mp c17)
                    clear c17
                    (first | rw [c17b0] | (simp only [i64_w, i32_w]; rw [c17b0]) | skip)
                    have H' := Aside0.mk H
                    clear H
                    have hcz18_0 : w15.cell? ⟨gb424, 0, none⟩ = some (.string (⟨#[]⟩ : ByteArray)) := (blk_cell BK424.out 0).trans rfl
                    have hcz18_1 : w15.cell? ⟨gb424, 1, none⟩ = some (.string (⟨#[]⟩ : ByteArray)) := (blk_cell BK424.out 1).trans rfl
                    have hfz18_0 := blk_frozen BK424.out 0
                    have hfz18_1 := blk_frozen BK424.out 1
                    go_wp2
                    repeat (go_quiet (fail); try go_wp2)
                    go_meet
                    case rel => exact ⟨_, (true), (by first | rfl | (simp; done) | (simp [*]; done)), H', ⟨by have := HK1.out; first | omega | exact Nat.le_refl _⟩, ⟨by (with_reducible repeat (first | apply Kd.R_alloc | apply Kd.R_drewN | apply Kd.R_drew)); exact Kd.R_mono (Kd.R_far (p := ⟨gb424, 1, none⟩) (Kd.R_far (p := ⟨gb424, 0, none⟩) (Kd.R_mono HO_5.out (fun k_ hk => (⟨hk, hk.2⟩ : _ ∧ k_ ≠ gb424))) (fun _ hk => hk.2) (.string ((rd_T43 l0 x39_1).f0))) (fun _ hk => hk.2) (.string ((rd_T43 l0 x39_1).f1))) (fun _ hk => ⟨hk.1.1, hk.1.2⟩)⟩, ⟨by (with_reducible repeat (first | apply Kd.R_alloc | apply Kd.R_drewN | apply Kd.R_drew)); exact Kd.R_mono (Kd.R_far (p := ⟨gb424, 1, none⟩) (Kd.R_far (p := ⟨gb424, 0, none⟩) (Kd.R_mono HO_7.out (fun k_ hk => (⟨hk, hk.2⟩ : _ ∧ k_ ≠ gb424))) (fun _ hk => hk.2) (.string ((rd_T43 l0 x39_1).f0))) (fun _ hk => hk.2) (.string ((rd_T43 l0 x39_1).f1))) (fun _ hk => ⟨hk.1.1, hk.1.2⟩)⟩, ⟨by (with_reducible repeat (first | refine blk_drewN ?_ _ | refine blk_drew ?_ | refine blk_alloc ?_ _)); refine blk_put (cs := #[.string ((rd_T43 l0 x39_1).f0), .string (⟨#[]⟩ : ByteArray)]) ?_ 1 _ rfl; (with_reducible repeat (first | refine blk_drewN ?_ _ | refine blk_drew ?_ | refine blk_alloc ?_ _)); refine blk_put (cs := #[.string (⟨#[]⟩ : ByteArray), .string (⟨#[]⟩ : ByteArray)]) ?_ 0 _ rfl; (with_reducible repeat (first | refine blk_drewN ?_ _ | refine blk_drew ?_ | refine blk_alloc ?_ _)); exact BK424.out⟩, ⟨by repeat (first | (with_reducible first | exact HB.out | apply below_alloc | apply pw_below_drewN | apply below_drew1 | refine below_set ?_ GE424.out) | exact HB.out)⟩⟩
                  · rw [if_neg c17] at H
                    have c17b0 : decide ((((rd_T43 l0 x39_1).f0).size : Int) < (a1.size : Int)) = false := decide_eq_false c17
                    have c17b1 : decide (((rd_T43 l0 x39_1).f0).size < a1.size) = false := decide_eq_false (fun h => c17 (Int.ofNat_lt.mpr h))
                    clear c17
                    (first | rw [c17b0] | (simp only [i64_w, i32_w]; rw [c17b0]) | skip)
                    by_cases c19 : 0 ≤ (a1.size : Int)
                    · rw [if_pos c19] at H
                      have c19b0 := eq_true c19
                      have c19b1 : decide (0 ≤ (a1.size : Int)) = true := decide_eq_true c19
                      clear c19
                      by_cases c20 : (a1.size : Int) ≤ (((rd_T43 l0 x39_1).f0).size : Int)
                      · rw [if_pos c20] at H
                        have c20b0 := eq_true c20
                        have c20b1 : decide ((a1.size : Int) ≤ (((rd_T43 l0 x39_1).f0).size : Int)) = true := decide_eq_true c20
                        clear c20
                        have H' := Aside0.mk H
                        clear H
                        have hcz21_0 : w15.cell? ⟨gb424, 0, none⟩ = some (.string (⟨#[]⟩ : ByteArray)) := (blk_cell BK424.out 0).trans rfl
                        have hcz21_1 : w15.cell? ⟨gb424, 1, none⟩ = some (.string (⟨#[]⟩ : ByteArray)) := (blk_cell BK424.out 1).trans rfl
                        have hfz21_0 := blk_frozen BK424.out 0
                        have hfz21_1 := blk_frozen BK424.out 1
                        go_wp2
                        repeat (go_quiet (fail); try go_wp2)
                        go_meet
                        case rel => exact ⟨_, (((((rd_T43 l0 x39_1).f0).extract 0 ((a1.size : Int) : Int).toNat).toList != a1.toList)), (by first | rfl | (simp; done) | (simp [*]; done)), H', ⟨by have := HK1.out; first | omega | exact Nat.le_refl _⟩, ⟨by (with_reducible repeat (first | apply Kd.R_alloc | apply Kd.R_drewN | apply Kd.R_drew)); exact Kd.R_mono (Kd.R_far (p := ⟨gb424, 1, none⟩) (Kd.R_far (p := ⟨gb424, 0, none⟩) (Kd.R_mono HO_5.out (fun k_ hk => (⟨hk, hk.2⟩ : _ ∧ k_ ≠ gb424))) (fun _ hk => hk.2) (.string ((rd_T43 l0 x39_1).f0))) (fun _ hk => hk.2) (.string ((rd_T43 l0 x39_1).f1))) (fun _ hk => ⟨hk.1.1, hk.1.2⟩)⟩, ⟨by (with_reducible repeat (first | apply Kd.R_alloc | apply Kd.R_drewN | apply Kd.R_drew)); exact Kd.R_mono (Kd.R_far (p := ⟨gb424, 1, none⟩) (Kd.R_far (p := ⟨gb424, 0, none⟩) (Kd.R_mono HO_7.out (fun k_ hk => (⟨hk, hk.2⟩ : _ ∧ k_ ≠ gb424))) (fun _ hk => hk.2) (.string ((rd_T43 l0 x39_1).f0))) (fun _ hk => hk.2) (.string ((rd_T43 l0 x39_1).f1))) (fun _ hk => ⟨hk.1.1, hk.1.2⟩)⟩, ⟨by (with_reducible repeat (first | refine blk_drewN ?_ _ | refine blk_drew ?_ | refine blk_alloc ?_ _)); refine blk_put (cs := #[.string ((rd_T43 l0 x39_1).f0), .string (⟨#[]⟩ : ByteArray)]) ?_ 1 _ rfl; (with_reducible repeat (first | refine blk_drewN ?_ _ | refine blk_drew ?_ | refine blk_alloc ?_ _)); refine blk_put (cs := #[.string (⟨#[]⟩ : ByteArray), .string (⟨#[]⟩ : ByteArray)]) ?_ 0 _ rfl; (with_reducible repeat (first | refine blk_drewN ?_ _ | refine blk_drew ?_ | refine blk_alloc ?_ _)); exact BK424.out⟩, ⟨by repeat (first | (with_reducible first | exact HB.out | apply below_alloc | apply pw_below_drewN | apply below_drew1 | refine below_set ?_ GE424.out) | exact HB.out)⟩⟩
                      · rw [if_neg c20] at H
                        exact absurd H (by simp)
                    · rw [if_neg c19] at H
                      exact absurd H (by simp)
                case rest =>
                  clear HC14
                  try clear c1
                  try clear c2
                  try clear p2
                  try clear c4
                  try clear p4
                  try clear q4
                  try clear hx4
                  try clear c7
                  try clear c7b0
                  try clear c7b1
                  try clear c8
                  try clear c11
                  try clear c11b0
                  try clear c12
                  try clear c12b0
                  try clear c13
                  try clear c13b0
                  try clear c17
                  try clear c17b0
                  try clear c17b1
                  try clear c19
                  try clear c19b0
                  try clear c19b1
                  try clear c20
                  try clear c20b0
                  try clear c20b1
                  try clear hcz16_0
                  try clear hcz16_1
                  try clear hcz18_0
                  try clear hcz18_1
                  try clear hcz21_0
                  try clear hcz21_1
                  try clear hfz16_0
                  try clear hfz16_1
                  try clear hfz18_0
                  try clear hfz18_1
                  try clear hfz21_0
                  try clear hfz21_1
                  try clear hx423_0
                  try clear hx423_1
                  try clear p2
                  try clear p423
                  try clear q423
                  obtain ⟨kq, x57_13, rfl, HA, HJ13, HO_5, HO_7, BK424, HB⟩ := hcut
                  cases kq with
                  | zero => exact absurd HA.out (by simp [cambiumlaw04_ItemUnder.j1])
                  | succ kj13 =>
                    have H := HA.out
                    clear HA
                    simp only [cambiumlaw04_ItemUnder.j1] at H
                    by_cases c22 : x57_13 = true
                    · subst c22
                      have H1 : (cambiumlaw04_ItemUnder.l0 kj13 l0 a1 t414 t418 t419 x9_1 l0 (l0.length : Int) (wrap64 (x39_1 + 1))) = some r := by rw [if_pos rfl] at H; exact H
                      clear H
                      have H := H1
                      clear H1
                      have H' := Aside0.mk H
                      clear H
                      go_wp2
                      repeat (go_quiet (fail); try go_wp2)
                      go_roundg kj13
                      case measure => have := HK1.out; have := HJ13.out; omega
                      case rel => exact ⟨(x9_1), (wrap64 (x39_1 + 1)), (by first | rfl | (simp; done) | (simp [*]; done)), (by first | rfl | (simp; done) | (simp [*]; done)), H', ⟨by have := HK1.out; have := HJ13.out; omega⟩, ⟨by (with_reducible repeat (first | apply Kd.R_alloc | apply Kd.R_drewN | apply Kd.R_drew)); exact Kd.R_mono HO_5.out (fun _ hk => hk.1)⟩, ⟨by (with_reducible repeat (first | apply Kd.R_alloc | apply Kd.R_drewN | apply Kd.R_drew)); exact Kd.R_mono HO_7.out (fun _ hk => hk.1)⟩, ⟨by repeat (first | (with_reducible first | exact HB.out | apply below_alloc | apply pw_below_drewN | apply below_drew1 | refine below_set ?_ GE424.out) | exact HB.out)⟩⟩
                    · replace c22 := Bool.eq_false_iff.mpr c22
                      subst c22
                      have H1 : ((item_Get.f kj13 l0 ((rd_T43 l0 x39_1).f0)).bind fun bt425 => (if x9_1 ≥ (t414.length : Int) then (some false) else (if 0 ≤ x9_1 then (if x9_1 < (t414.length : Int) then (if (!((((rd_T43 t414 x9_1).f0).toList) == ((rd_T43 l0 x39_1).f0).toList) || (!((((rd_T43 t414 x9_1).f1).toList) == ((rd_T43 l0 x39_1).f1).toList))) = true then (some false) else (if bt425.1.toList = ((rd_T43 l0 x39_1).f1).toList then (if bt425.2 = 0 then (cambiumlaw04_ItemUnder.l0 kj13 l0 a1 t414 t418 t419 (wrap64 (x9_1 + 1)) l0 (l0.length : Int) (wrap64 (x39_1 + 1))) else (some false)) else (some false))) else (none)) else (none)))) = some r := by rw [if_neg (show ¬ (false = true) by decide)] at H; exact H
                      clear H
                      have H := H1
                      clear H1
                      replace H := Option.bind_eq_some_iff.mp H
                      obtain ⟨⟨t425, t426⟩, A230, H⟩ := H
                      replace H : (if x9_1 ≥ (t414.length : Int) then (some false) else (if 0 ≤ x9_1 then (if x9_1 < (t414.length : Int) then (if (!((((rd_T43 t414 x9_1).f0).toList) == ((rd_T43 l0 x39_1).f0).toList) || (!((((rd_T43 t414 x9_1).f1).toList) == ((rd_T43 l0 x39_1).f1).toList))) = true then (some false) else (if t425.toList = ((rd_T43 l0 x39_1).f1).toList then (if t426 = 0 then (cambiumlaw04_ItemUnder.l0 kj13 l0 a1 t414 t418 t419 (wrap64 (x9_1 + 1)) l0 (l0.length : Int) (wrap64 (x39_1 + 1))) else (some false)) else (some false))) else (none)) else (none))) = some r := H
                      have A23 := Aside0.mk A230
                      clear A230
                      by_cases c24 : x9_1 ≥ (t414.length : Int)
                      · rw [if_pos c24] at H
                        have c24b0 : decide ((t414.length : Int) ≤ x9_1) = true := decide_eq_true c24
                        clear c24
                        exact absurd ((Option.some.inj H).trans HT_.out) (by simp)
                      · rw [if_neg c24] at H
                        have c24b0 : decide ((t414.length : Int) ≤ x9_1) = false := decide_eq_false c24
                        clear c24
                        by_cases c25 : 0 ≤ x9_1
                        · rw [if_pos c25] at H
                          have c25b0 : decide (0 ≤ x9_1) = true := decide_eq_true c25
                          clear c25
                          by_cases c26 : x9_1 < (t414.length : Int)
                          · rw [if_pos c26] at H
                            have c26b0 : decide (x9_1 < (t414.length : Int)) = true := decide_eq_true c26
                            clear c26
                            by_cases c27 : (!((((rd_T43 t414 x9_1).f0).toList) == ((rd_T43 l0 x39_1).f0).toList) || (!((((rd_T43 t414 x9_1).f1).toList) == ((rd_T43 l0 x39_1).f1).toList))) = true
                            · rw [if_pos c27] at H
                              have c27b0 : (!((((rd_T43 t414 x9_1).f0).toList) == ((rd_T43 l0 x39_1).f0).toList) || (!((((rd_T43 t414 x9_1).f1).toList) == ((rd_T43 l0 x39_1).f1).toList))) = true := c27
                              clear c27
                              exact absurd ((Option.some.inj H).trans HT_.out) (by simp)
                            · rw [if_neg c27] at H
                              have c27b0 : (!((((rd_T43 t414 x9_1).f0).toList) == ((rd_T43 l0 x39_1).f0).toList) || (!((((rd_T43 t414 x9_1).f1).toList) == ((rd_T43 l0 x39_1).f1).toList))) = false := by simpa using c27
                              clear c27
                              by_cases c28 : t425.toList = ((rd_T43 l0 x39_1).f1).toList
                              · rw [if_pos c28] at H
                                have c28b0 : (t425.toList == ((rd_T43 l0 x39_1).f1).toList) = true := beq_iff_eq.mpr c28
                                have c28b1 : (t425.toList != ((rd_T43 l0 x39_1).f1).toList) = false := bne_eq_false_iff_eq.mpr c28
                                clear c28
                                by_cases c29 : t426 = 0
                                · rw [if_pos c29] at H
                                  have c29b0 : (t426 == 0) = true := beq_iff_eq.mpr c29
                                  have c29b1 : (t426 != 0) = false := bne_eq_false_iff_eq.mpr c29
                                  clear c29
                                  have H' := Aside0.mk H
                                  clear H
                                  have hcz30_0 : wc.cell? ⟨gb424, 0, none⟩ = some (.string ((rd_T43 l0 x39_1).f0)) := (blk_cell BK424.out 0).trans rfl
                                  have hcz30_1 : wc.cell? ⟨gb424, 1, none⟩ = some (.string ((rd_T43 l0 x39_1).f1)) := (blk_cell BK424.out 1).trans rfl
                                  have hfz30_0 := blk_frozen BK424.out 0
                                  have hfz30_1 := blk_frozen BK424.out 1
                                  go_wp2_with (first | (go_at_call 12; (with_reducible refine (item_Get.calls kj13 _ _ l0 ((rd_T43 l0 x39_1).f0) t425 t426 _ ?side1 ?side2 A23.out).mono ?_); (case side1 => repeat (first | exact (Kd.C_below HR0.out HB.out) | (with_reducible refine Kd.C_alloc ?_ _) | (with_reducible refine Kd.C_drewN ?_ _) | (with_reducible refine Kd.C_drew ?_))); (case side2 => exact HC0.out); rintro e w31 ⟨rfl, hb⟩; have n0_ := Aside0.mk (Kd.R_below (by (with_reducible repeat (first | apply Kd.R_alloc | apply Kd.R_drewN | apply Kd.R_drew)); exact HO_5.out) hb); have n1_ := Aside0.mk (Kd.R_below (by (with_reducible repeat (first | apply Kd.R_alloc | apply Kd.R_drewN | apply Kd.R_drew)); exact HO_7.out) hb); have n2_ := Aside0.mk (blk_below (g := gb424) (o := .cells #[.string ((rd_T43 l0 x39_1).f0), .string ((rd_T43 l0 x39_1).f1)] 43 (0, 0)) (by (with_reducible repeat (first | refine blk_drewN ?_ _ | refine blk_drew ?_ | refine blk_alloc ?_ _)); exact BK424.out) hb); have n3_ := Aside0.mk (below_step (by repeat (first | (with_reducible first | exact HB.out | apply below_alloc | apply pw_below_drewN | apply below_drew1 | refine below_set ?_ GE424.out) | exact HB.out)) hb); clear HO_5; clear HO_7; clear BK424; clear HB; have HO_5 := n0_; have HO_7 := n1_; have BK424 := n2_; have HB := n3_; clear n0_ n1_ n2_ n3_; (try clear hb); (try clear hb2); (try clear hk); (try clear hi); obtain ⟨Ao32, co32, eo32⟩ := Kd.R_slice HO_5.out; subst eo32; have p427 : 0 ≤ (x9_1 : Int) := of_decide_eq_true (by first | (with_reducible assumption) | assumption); have q427 : x9_1 < (t414.length : Int) := of_decide_eq_true (by first | (with_reducible assumption) | assumption); obtain ⟨ad427, e427, hx427_0, hx427_1⟩ := at_T43 (Kd.R_reads' HO_5.out).2.2 x9_1 p427 q427; cases e427; replace p427 := eq_true p427; replace q427 := eq_true q427; have hcz33_0 : w31.cell? ⟨gb424, 0, none⟩ = some (.string ((rd_T43 l0 x39_1).f0)) := (blk_cell BK424.out 0).trans rfl; have hcz33_1 : w31.cell? ⟨gb424, 1, none⟩ = some (.string ((rd_T43 l0 x39_1).f1)) := (blk_cell BK424.out 1).trans rfl; have hfz33_0 := blk_frozen BK424.out 0; have hfz33_1 := blk_frozen BK424.out 1))
                                  repeat (go_quiet (first | (go_at_call 12; (with_reducible refine (item_Get.calls kj13 _ _ l0 ((rd_T43 l0 x39_1).f0) t425 t426 _ ?side1 ?side2 A23.out).mono ?_); (case side1 => repeat (first | exact (Kd.C_below HR0.out HB.out) | (with_reducible refine Kd.C_alloc ?_ _) | (with_reducible refine Kd.C_drewN ?_ _) | (with_reducible refine Kd.C_drew ?_))); (case side2 => exact HC0.out); rintro e w31 ⟨rfl, hb⟩; have n0_ := Aside0.mk (Kd.R_below (by (with_reducible repeat (first | apply Kd.R_alloc | apply Kd.R_drewN | apply Kd.R_drew)); exact HO_5.out) hb); have n1_ := Aside0.mk (Kd.R_below (by (with_reducible repeat (first | apply Kd.R_alloc | apply Kd.R_drewN | apply Kd.R_drew)); exact HO_7.out) hb); have n2_ := Aside0.mk (blk_below (g := gb424) (o := .cells #[.string ((rd_T43 l0 x39_1).f0), .string ((rd_T43 l0 x39_1).f1)] 43 (0, 0)) (by (with_reducible repeat (first | refine blk_drewN ?_ _ | refine blk_drew ?_ | refine blk_alloc ?_ _)); exact BK424.out) hb); have n3_ := Aside0.mk (below_step (by repeat (first | (with_reducible first | exact HB.out | apply below_alloc | apply pw_below_drewN | apply below_drew1 | refine below_set ?_ GE424.out) | exact HB.out)) hb); clear HO_5; clear HO_7; clear BK424; clear HB; have HO_5 := n0_; have HO_7 := n1_; have BK424 := n2_; have HB := n3_; clear n0_ n1_ n2_ n3_; (try clear hb); (try clear hb2); (try clear hk); (try clear hi); obtain ⟨Ao32, co32, eo32⟩ := Kd.R_slice HO_5.out; subst eo32; have p427 : 0 ≤ (x9_1 : Int) := of_decide_eq_true (by first | (with_reducible assumption) | assumption); have q427 : x9_1 < (t414.length : Int) := of_decide_eq_true (by first | (with_reducible assumption) | assumption); obtain ⟨ad427, e427, hx427_0, hx427_1⟩ := at_T43 (Kd.R_reads' HO_5.out).2.2 x9_1 p427 q427; cases e427; replace p427 := eq_true p427; replace q427 := eq_true q427; have hcz33_0 : w31.cell? ⟨gb424, 0, none⟩ = some (.string ((rd_T43 l0 x39_1).f0)) := (blk_cell BK424.out 0).trans rfl; have hcz33_1 : w31.cell? ⟨gb424, 1, none⟩ = some (.string ((rd_T43 l0 x39_1).f1)) := (blk_cell BK424.out 1).trans rfl; have hfz33_0 := blk_frozen BK424.out 0; have hfz33_1 := blk_frozen BK424.out 1)); try go_wp2_with (first | (go_at_call 12; (with_reducible refine (item_Get.calls kj13 _ _ l0 ((rd_T43 l0 x39_1).f0) t425 t426 _ ?side1 ?side2 A23.out).mono ?_); (case side1 => repeat (first | exact (Kd.C_below HR0.out HB.out) | (with_reducible refine Kd.C_alloc ?_ _) | (with_reducible refine Kd.C_drewN ?_ _) | (with_reducible refine Kd.C_drew ?_))); (case side2 => exact HC0.out); rintro e w31 ⟨rfl, hb⟩; have n0_ := Aside0.mk (Kd.R_below (by (with_reducible repeat (first | apply Kd.R_alloc | apply Kd.R_drewN | apply Kd.R_drew)); exact HO_5.out) hb); have n1_ := Aside0.mk (Kd.R_below (by (with_reducible repeat (first | apply Kd.R_alloc | apply Kd.R_drewN | apply Kd.R_drew)); exact HO_7.out) hb); have n2_ := Aside0.mk (blk_below (g := gb424) (o := .cells #[.string ((rd_T43 l0 x39_1).f0), .string ((rd_T43 l0 x39_1).f1)] 43 (0, 0)) (by (with_reducible repeat (first | refine blk_drewN ?_ _ | refine blk_drew ?_ | refine blk_alloc ?_ _)); exact BK424.out) hb); have n3_ := Aside0.mk (below_step (by repeat (first | (with_reducible first | exact HB.out | apply below_alloc | apply pw_below_drewN | apply below_drew1 | refine below_set ?_ GE424.out) | exact HB.out)) hb); clear HO_5; clear HO_7; clear BK424; clear HB; have HO_5 := n0_; have HO_7 := n1_; have BK424 := n2_; have HB := n3_; clear n0_ n1_ n2_ n3_; (try clear hb); (try clear hb2); (try clear hk); (try clear hi); obtain ⟨Ao32, co32, eo32⟩ := Kd.R_slice HO_5.out; subst eo32; have p427 : 0 ≤ (x9_1 : Int) := of_decide_eq_true (by first | (with_reducible assumption) | assumption); have q427 : x9_1 < (t414.length : Int) := of_decide_eq_true (by first | (with_reducible assumption) | assumption); obtain ⟨ad427, e427, hx427_0, hx427_1⟩ := at_T43 (Kd.R_reads' HO_5.out).2.2 x9_1 p427 q427; cases e427; replace p427 := eq_true p427; replace q427 := eq_true q427; have hcz33_0 : w31.cell? ⟨gb424, 0, none⟩ = some (.string ((rd_T43 l0 x39_1).f0)) := (blk_cell BK424.out 0).trans rfl; have hcz33_1 : w31.cell? ⟨gb424, 1, none⟩ = some (.string ((rd_T43 l0 x39_1).f1)) := (blk_cell BK424.out 1).trans rfl; have hfz33_0 := blk_frozen BK424.out 0; have hfz33_1 := blk_frozen BK424.out 1)))
                                  go_roundg kj13
                                  case measure => have := HK1.out; have := HJ13.out; omega
                                  case rel => exact ⟨(wrap64 (x9_1 + 1)), (wrap64 (x39_1 + 1)), (by first | rfl | (simp; done) | (simp [*]; done)), (by first | rfl | (simp; done) | (simp [*]; done)), H', ⟨by have := HK1.out; have := HJ13.out; omega⟩, ⟨by (with_reducible repeat (first | apply Kd.R_alloc | apply Kd.R_drewN | apply Kd.R_drew)); exact Kd.R_mono HO_5.out (fun _ hk => hk.1)⟩, ⟨by (with_reducible repeat (first | apply Kd.R_alloc | apply Kd.R_drewN | apply Kd.R_drew)); exact Kd.R_mono HO_7.out (fun _ hk => hk.1)⟩, ⟨by repeat (first | (with_reducible first | exact HB.out | apply below_alloc | apply pw_below_drewN | apply below_drew1 | refine below_set ?_ GE424.out) | exact HB.out)⟩⟩
                                · rw [if_neg c29] at H
                                  have c29b0 : (t426 == 0) = false := beq_eq_false_iff_ne.mpr c29
                                  have c29b1 : (t426 != 0) = true := bne_iff_ne.mpr c29
                                  exact absurd ((Option.some.inj H).trans HT_.out) (by simp)
                              · rw [if_neg c28] at H
                                have c28b0 : (t425.toList == ((rd_T43 l0 x39_1).f1).toList) = false := beq_eq_false_iff_ne.mpr c28
                                have c28b1 : (t425.toList != ((rd_T43 l0 x39_1).f1).toList) = true := bne_iff_ne.mpr c28
                                exact absurd ((Option.some.inj H).trans HT_.out) (by simp)
                          · rw [if_neg c26] at H
                            exact absurd H (by simp)
                        · rw [if_neg c25] at H
                          exact absurd H (by simp)
              · rw [if_neg c13] at H
                exact absurd H (by simp)
            · rw [if_neg c12] at H
              exact absurd H (by simp)
          · rw [if_neg c11] at H
            have c11b0 : decide (x39_1 < (l0.length : Int)) = false := decide_eq_false c11
            clear c11
            by_cases c34 : x9_1 = (t414.length : Int)
            · rw [if_pos c34] at H
              have c34b0 : (x9_1 == (t414.length : Int)) = true := beq_iff_eq.mpr c34
              have c34b1 : (x9_1 != (t414.length : Int)) = false := bne_eq_false_iff_eq.mpr c34
              clear c34
              by_cases c35 : t419 = 0
              · rw [if_pos c35] at H
                have c35b0 : (t419 == 0) = true := beq_iff_eq.mpr c35
                have c35b1 : (t419 != 0) = false := bne_eq_false_iff_eq.mpr c35
                clear c35
                replace H := Option.bind_eq_some_iff.mp H
                obtain ⟨t422, A360, H⟩ := H
                replace H : (some t422) = some r := H
                have A36 := Aside0.mk A360
                clear A360
                obtain rfl := Option.some.inj H
                obtain ⟨Ao37, co37, eo37⟩ := Kd.R_slice HO_5.out
                subst eo37
                obtain ⟨Ao38, co38, eo38⟩ := Kd.R_slice HO_7.out
                subst eo38
                go_wp2_with (first | (go_at_call 17; (with_reducible refine (cambiumref04_Same.calls k1 _ _ t418 _ _ l0 t422 _ ?side1 ?side2 ?side3 ?side4 A36.out).mono ?_); (case side1 => repeat (first | exact (Kd.R_reads' HO_7.out).2.2 | (with_reducible refine Kd.C_alloc ?_ _) | (with_reducible refine Kd.C_drewN ?_ _) | (with_reducible refine Kd.C_drew ?_))); (case side2 => exact (Kd.R_reads' HO_7.out).2.1); (case side3 => repeat (first | exact (Kd.C_below HR0.out HB.out) | (with_reducible refine Kd.C_alloc ?_ _) | (with_reducible refine Kd.C_drewN ?_ _) | (with_reducible refine Kd.C_drew ?_))); (case side4 => exact HC0.out); rintro e w' ⟨rfl, ⟨nd, rfl⟩⟩; (try first | exact ⟨rfl, _, World.drewN_drewN _ _ _⟩ | exact ⟨rfl, _, Eq.trans (World.drewN_drewN _ _ _) (congrArg (World.drewN _) (Nat.add_assoc _ _ _))⟩)))
                repeat (go_quiet (first | (go_at_call 17; (with_reducible refine (cambiumref04_Same.calls k1 _ _ t418 _ _ l0 t422 _ ?side1 ?side2 ?side3 ?side4 A36.out).mono ?_); (case side1 => repeat (first | exact (Kd.R_reads' HO_7.out).2.2 | (with_reducible refine Kd.C_alloc ?_ _) | (with_reducible refine Kd.C_drewN ?_ _) | (with_reducible refine Kd.C_drew ?_))); (case side2 => exact (Kd.R_reads' HO_7.out).2.1); (case side3 => repeat (first | exact (Kd.C_below HR0.out HB.out) | (with_reducible refine Kd.C_alloc ?_ _) | (with_reducible refine Kd.C_drewN ?_ _) | (with_reducible refine Kd.C_drew ?_))); (case side4 => exact HC0.out); rintro e w' ⟨rfl, ⟨nd, rfl⟩⟩; (try first | exact ⟨rfl, _, World.drewN_drewN _ _ _⟩ | exact ⟨rfl, _, Eq.trans (World.drewN_drewN _ _ _) (congrArg (World.drewN _) (Nat.add_assoc _ _ _))⟩))); try go_wp2_with (first | (go_at_call 17; (with_reducible refine (cambiumref04_Same.calls k1 _ _ t418 _ _ l0 t422 _ ?side1 ?side2 ?side3 ?side4 A36.out).mono ?_); (case side1 => repeat (first | exact (Kd.R_reads' HO_7.out).2.2 | (with_reducible refine Kd.C_alloc ?_ _) | (with_reducible refine Kd.C_drewN ?_ _) | (with_reducible refine Kd.C_drew ?_))); (case side2 => exact (Kd.R_reads' HO_7.out).2.1); (case side3 => repeat (first | exact (Kd.C_below HR0.out HB.out) | (with_reducible refine Kd.C_alloc ?_ _) | (with_reducible refine Kd.C_drewN ?_ _) | (with_reducible refine Kd.C_drew ?_))); (case side4 => exact HC0.out); rintro e w' ⟨rfl, ⟨nd, rfl⟩⟩; (try first | exact ⟨rfl, _, World.drewN_drewN _ _ _⟩ | exact ⟨rfl, _, Eq.trans (World.drewN_drewN _ _ _) (congrArg (World.drewN _) (Nat.add_assoc _ _ _))⟩))))
                go_ret
                exact ⟨by first | rfl | (simp [errW_none, errW_some] <;> rfl) | (simp [*, errW_none, errW_some] <;> rfl), by repeat (first | (with_reducible first | exact HB.out | apply below_alloc | apply pw_below_drewN | apply below_drew1) | exact HB.out)⟩
              · rw [if_neg c35] at H
                have c35b0 : (t419 == 0) = false := beq_eq_false_iff_ne.mpr c35
                have c35b1 : (t419 != 0) = true := bne_iff_ne.mpr c35
                exact absurd ((Option.some.inj H).trans HT_.out) (by simp)
            · rw [if_neg c34] at H
              have c34b0 : (x9_1 == (t414.length : Int)) = false := beq_eq_false_iff_ne.mpr c34
              have c34b1 : (x9_1 != (t414.length : Int)) = true := bne_iff_ne.mpr c34
              exact absurd ((Option.some.inj H).trans HT_.out) (by simp)
    · rw [if_neg c7] at H
      have c7b0 : (t415 == 0) = false := beq_eq_false_iff_ne.mpr c7
      have c7b1 : (t415 != 0) = true := bne_iff_ne.mpr c7
      by_cases c39 : t419 = t415
      · rw [if_pos c39] at H
        have c39b0 : (t419 == t415) = true := beq_iff_eq.mpr c39
        have c39b1 : (t419 != t415) = false := bne_eq_false_iff_eq.mpr c39
        clear c39
        obtain rfl := Option.some.inj H
        go_enter Try.func8, Try.ntmps8
        go_wp2_with (first | (go_at_call 16; (with_reducible refine (cambiumlaw04_lives.calls k  true _ A3.out).mono ?_); rintro e w40 ⟨rfl, hb⟩; have n0_ := Aside0.mk (below_step (by repeat (first | (with_reducible first | exact HB.out | apply below_alloc | apply pw_below_drewN | apply below_drew1) | exact HB.out)) hb); clear HB; have HB := n0_; clear n0_; (try clear hb); (try clear hb2); (try clear hk); (try clear hi)) | (go_at_call 14; (with_reducible refine (item_Under.calls k _ _ l0 a1 t414 t415 _ ?side1 ?side2 A5.out).mono ?_); (case side1 => repeat (first | exact (Kd.C_below HR0.out HB.out) | (with_reducible refine Kd.C_alloc ?_ _) | (with_reducible refine Kd.C_drewN ?_ _) | (with_reducible refine Kd.C_drew ?_))); (case side2 => exact HC0.out); rintro e w41 ⟨v416, rfl, ho0, hb⟩; have n0_ := Aside0.mk (Kd.R_lower ho0 (below_size (by repeat (first | (with_reducible first | exact HB.out | apply below_alloc | apply pw_below_drewN | apply below_drew1) | exact HB.out)))); have n1_ := Aside0.mk (below_step (by repeat (first | (with_reducible first | exact HB.out | apply below_alloc | apply pw_below_drewN | apply below_drew1) | exact HB.out)) hb); clear HB; have HO417 := n0_; have HB := n1_; clear n0_ n1_; (try clear hb); (try clear hb2); (try clear hk); (try clear hi); (try clear ho0)) | (go_at_call 14; (with_reducible refine (item_Under.calls k _ _ l0 (⟨#[]⟩ : ByteArray) t418 t419 _ ?side1 ?side2 A6.out).mono ?_); (case side1 => repeat (first | exact (Kd.C_below HR0.out HB.out) | (with_reducible refine Kd.C_alloc ?_ _) | (with_reducible refine Kd.C_drewN ?_ _) | (with_reducible refine Kd.C_drew ?_))); (case side2 => exact HC0.out); rintro e w42 ⟨v420, rfl, ho0, hb⟩; have n0_ := Aside0.mk (Kd.R_elder' (by (with_reducible repeat (first | apply Kd.R_alloc | apply Kd.R_drewN | apply Kd.R_drew)); exact HO417.out) (Kd.R_base ho0) hb); have n1_ := Aside0.mk (Kd.R_lower (Kd.R_new' ho0 (Kd.R_lt (by (with_reducible repeat (first | apply Kd.R_alloc | apply Kd.R_drewN | apply Kd.R_drew)); exact HO417.out))) (below_size (by repeat (first | (with_reducible first | exact HB.out | apply below_alloc | apply pw_below_drewN | apply below_drew1) | exact HB.out)))); have n2_ := Aside0.mk (below_step (by repeat (first | (with_reducible first | exact HB.out | apply below_alloc | apply pw_below_drewN | apply below_drew1) | exact HB.out)) hb); clear HO417; clear HB; have HO417 := n0_; have HO421 := n1_; have HB := n2_; clear n0_ n1_ n2_; (try clear hb); (try clear hb2); (try clear hk); (try clear hi); (try clear ho0); obtain ⟨Ao43, co43, eo43⟩ := Kd.R_slice HO417.out; subst eo43))
        repeat (go_quiet (first | (go_at_call 16; (with_reducible refine (cambiumlaw04_lives.calls k  true _ A3.out).mono ?_); rintro e w40 ⟨rfl, hb⟩; have n0_ := Aside0.mk (below_step (by repeat (first | (with_reducible first | exact HB.out | apply below_alloc | apply pw_below_drewN | apply below_drew1) | exact HB.out)) hb); clear HB; have HB := n0_; clear n0_; (try clear hb); (try clear hb2); (try clear hk); (try clear hi)) | (go_at_call 14; (with_reducible refine (item_Under.calls k _ _ l0 a1 t414 t415 _ ?side1 ?side2 A5.out).mono ?_); (case side1 => repeat (first | exact (Kd.C_below HR0.out HB.out) | (with_reducible refine Kd.C_alloc ?_ _) | (with_reducible refine Kd.C_drewN ?_ _) | (with_reducible refine Kd.C_drew ?_))); (case side2 => exact HC0.out); rintro e w41 ⟨v416, rfl, ho0, hb⟩; have n0_ := Aside0.mk (Kd.R_lower ho0 (below_size (by repeat (first | (with_reducible first | exact HB.out | apply below_alloc | apply pw_below_drewN | apply below_drew1) | exact HB.out)))); have n1_ := Aside0.mk (below_step (by repeat (first | (with_reducible first | exact HB.out | apply below_alloc | apply pw_below_drewN | apply below_drew1) | exact HB.out)) hb); clear HB; have HO417 := n0_; have HB := n1_; clear n0_ n1_; (try clear hb); (try clear hb2); (try clear hk); (try clear hi); (try clear ho0)) | (go_at_call 14; (with_reducible refine (item_Under.calls k _ _ l0 (⟨#[]⟩ : ByteArray) t418 t419 _ ?side1 ?side2 A6.out).mono ?_); (case side1 => repeat (first | exact (Kd.C_below HR0.out HB.out) | (with_reducible refine Kd.C_alloc ?_ _) | (with_reducible refine Kd.C_drewN ?_ _) | (with_reducible refine Kd.C_drew ?_))); (case side2 => exact HC0.out); rintro e w42 ⟨v420, rfl, ho0, hb⟩; have n0_ := Aside0.mk (Kd.R_elder' (by (with_reducible repeat (first | apply Kd.R_alloc | apply Kd.R_drewN | apply Kd.R_drew)); exact HO417.out) (Kd.R_base ho0) hb); have n1_ := Aside0.mk (Kd.R_lower (Kd.R_new' ho0 (Kd.R_lt (by (with_reducible repeat (first | apply Kd.R_alloc | apply Kd.R_drewN | apply Kd.R_drew)); exact HO417.out))) (below_size (by repeat (first | (with_reducible first | exact HB.out | apply below_alloc | apply pw_below_drewN | apply below_drew1) | exact HB.out)))); have n2_ := Aside0.mk (below_step (by repeat (first | (with_reducible first | exact HB.out | apply below_alloc | apply pw_below_drewN | apply below_drew1) | exact HB.out)) hb); clear HO417; clear HB; have HO417 := n0_; have HO421 := n1_; have HB := n2_; clear n0_ n1_ n2_; (try clear hb); (try clear hb2); (try clear hk); (try clear hi); (try clear ho0); obtain ⟨Ao43, co43, eo43⟩ := Kd.R_slice HO417.out; subst eo43)); try go_wp2_with (first | (go_at_call 16; (with_reducible refine (cambiumlaw04_lives.calls k  true _ A3.out).mono ?_); rintro e w40 ⟨rfl, hb⟩; have n0_ := Aside0.mk (below_step (by repeat (first | (with_reducible first | exact HB.out | apply below_alloc | apply pw_below_drewN | apply below_drew1) | exact HB.out)) hb); clear HB; have HB := n0_; clear n0_; (try clear hb); (try clear hb2); (try clear hk); (try clear hi)) | (go_at_call 14; (with_reducible refine (item_Under.calls k _ _ l0 a1 t414 t415 _ ?side1 ?side2 A5.out).mono ?_); (case side1 => repeat (first | exact (Kd.C_below HR0.out HB.out) | (with_reducible refine Kd.C_alloc ?_ _) | (with_reducible refine Kd.C_drewN ?_ _) | (with_reducible refine Kd.C_drew ?_))); (case side2 => exact HC0.out); rintro e w41 ⟨v416, rfl, ho0, hb⟩; have n0_ := Aside0.mk (Kd.R_lower ho0 (below_size (by repeat (first | (with_reducible first | exact HB.out | apply below_alloc | apply pw_below_drewN | apply below_drew1) | exact HB.out)))); have n1_ := Aside0.mk (below_step (by repeat (first | (with_reducible first | exact HB.out | apply below_alloc | apply pw_below_drewN | apply below_drew1) | exact HB.out)) hb); clear HB; have HO417 := n0_; have HB := n1_; clear n0_ n1_; (try clear hb); (try clear hb2); (try clear hk); (try clear hi); (try clear ho0)) | (go_at_call 14; (with_reducible refine (item_Under.calls k _ _ l0 (⟨#[]⟩ : ByteArray) t418 t419 _ ?side1 ?side2 A6.out).mono ?_); (case side1 => repeat (first | exact (Kd.C_below HR0.out HB.out) | (with_reducible refine Kd.C_alloc ?_ _) | (with_reducible refine Kd.C_drewN ?_ _) | (with_reducible refine Kd.C_drew ?_))); (case side2 => exact HC0.out); rintro e w42 ⟨v420, rfl, ho0, hb⟩; have n0_ := Aside0.mk (Kd.R_elder' (by (with_reducible repeat (first | apply Kd.R_alloc | apply Kd.R_drewN | apply Kd.R_drew)); exact HO417.out) (Kd.R_base ho0) hb); have n1_ := Aside0.mk (Kd.R_lower (Kd.R_new' ho0 (Kd.R_lt (by (with_reducible repeat (first | apply Kd.R_alloc | apply Kd.R_drewN | apply Kd.R_drew)); exact HO417.out))) (below_size (by repeat (first | (with_reducible first | exact HB.out | apply below_alloc | apply pw_below_drewN | apply below_drew1) | exact HB.out)))); have n2_ := Aside0.mk (below_step (by repeat (first | (with_reducible first | exact HB.out | apply below_alloc | apply pw_below_drewN | apply below_drew1) | exact HB.out)) hb); clear HO417; clear HB; have HO417 := n0_; have HO421 := n1_; have HB := n2_; clear n0_ n1_ n2_; (try clear hb); (try clear hb2); (try clear hk); (try clear hi); (try clear ho0); obtain ⟨Ao43, co43, eo43⟩ := Kd.R_slice HO417.out; subst eo43)))
        go_ret
        exact ⟨by first | rfl | (simp [errW_none, errW_some] <;> rfl) | (simp [*, errW_none, errW_some] <;> rfl), by repeat (first | (with_reducible first | exact HB.out | apply below_alloc | apply pw_below_drewN | apply below_drew1) | exact HB.out)⟩
      · rw [if_neg c39] at H
        have c39b0 : (t419 == t415) = false := beq_eq_false_iff_ne.mpr c39
        have c39b1 : (t419 != t415) = true := bne_iff_ne.mpr c39
        exact absurd ((Option.some.inj H).trans HT_.out) (by simp)
  · replace c4 := Bool.eq_false_iff.mpr c4
    subst c4
    have H1 : (some false) = some r := by rw [if_neg (show ¬ (false = true) by decide)] at H; exact H
    clear H
    have H := H1
    clear H1
    exact absurd ((Option.some.inj H).trans HT_.out) (by simp)

end Go.Proofs.Ytdahmaepfmcpbaa.Z
end

section
/- How a round function comes to its answer: the steps. -/
namespace Go.Proofs.Ytdahmaepfmcpbaa.Z
open Go.RowKit Go.Proofs.YtdahmaepfmcpbaaW.PrintWords Go.Proofs.YtdahmaepfmcpbaaW.PrintLast
set_option linter.unusedVariables false
theorem Ev.val {α : Type} {g : Nat → Option α} {a b : α} (h : Ev g a) (e : a = b) : Ev g b := e ▸ h
theorem Ev.const {α : Type} {x : Option α} {r : α} (h : x = some r) : Ev (fun _ => x) r := ⟨0, fun _ _ => h⟩
theorem Ev.ifp {α : Type} {c : Prop} [Decidable c] {f g : Nat → Option α} {r : α} (hc : c) (h : Ev f r) : Ev (fun k => if c then f k else g k) r := Ev.congr (fun k => if_pos hc) h
theorem Ev.ifn {α : Type} {c : Prop} [Decidable c] {f g : Nat → Option α} {r : α} (hc : ¬ c) (h : Ev g r) : Ev (fun k => if c then f k else g k) r := Ev.congr (fun k => if_neg hc) h
theorem Ev.ite {α : Type} {c : Prop} [Decidable c] {f g : Nat → Option α} {r : α} (h : c → Ev f r) (h2 : ¬ c → Ev g r) : Ev (fun k => if c then f k else g k) r := by
  by_cases hc : c
  · exact Ev.ifp hc (h hc)
  · exact Ev.ifn hc (h2 hc)
theorem Ev.bindc {α β : Type} {x : Option α} {f : Nat → α → Option β} {a : α} {r : β} (h : x = some a) (k : Ev (fun n => f n a) r) : Ev (fun n => x.bind (f n)) r := Ev.bind (Ev.const h) k
theorem Ev.both {α : Type} {g : Nat → Option α} {a b : α} (h : Ev g a) (h2 : Ev g b) : a = b := by
  obtain ⟨K, h⟩ := h
  obtain ⟨K2, h2⟩ := h2
  have e1 := h (max K K2) (by omega)
  have e2 := h2 (max K K2) (by omega)
  rw [e1] at e2
  exact Option.some.inj e2
theorem w64 {i : Int} (h0 : -9223372036854775808 ≤ i) (h1 : i ≤ 9223372036854775807) : wrap64 i = i := by unfold wrap64; omega
theorem bytes_inj {a b : ByteArray} (h : a.toList = b.toList) : a = b := by
  rw [ByteArray.toList_eq, ByteArray.toList_eq] at h
  cases a; cases b; simp_all
end Go.Proofs.Ytdahmaepfmcpbaa.Z
end

section
/- Lists of items, over lists: right ones, what changes make of one, what the changes between two are. -/
namespace Go.Proofs.Ytdahmaepfmcpbaa.Z
open Go.RowKit Go.Proofs.YtdahmaepfmcpbaaW.PrintWords Go.Proofs.YtdahmaepfmcpbaaW.PrintLast
set_option linter.unusedVariables false
abbrev It := S43
abbrev Ch := S39
abbrev key (x : It) : List UInt8 := x.f0.toList
abbrev ck (c : Ch) : List UInt8 := c.f0.toList
theorem it_ext {x y : It} (h0 : x.f0.toList = y.f0.toList) (h1 : x.f1.toList = y.f1.toList) : x = y := by
  cases x; cases y
  simp only [S43.mk.injEq]
  exact ⟨bytes_inj h0, bytes_inj h1⟩
theorem ch_ext {x y : Ch} (h0 : x.f0.toList = y.f0.toList) (h1 : x.f1 = y.f1) (h2 : x.f2.toList = y.f2.toList) : x = y := by
  cases x; cases y
  simp only [S39.mk.injEq]
  exact ⟨bytes_inj h0, h1, bytes_inj h2⟩
def okK (k : ByteArray) : Bool := decide (k.toList ≠ [] ∧ k.size ≤ 48)
def okI (x : It) : Bool := okK x.f0 && decide (x.f1.size ≤ 160)
def okF : Option It → List It → Bool
  | _, [] => true
  | p, x :: l => okI x && (match p with | none => true | some q => Op.bytesLess (key q) (key x)) && okF (some x) l
def okL (l : List It) : Bool := okF none l
def Asc (l : List It) : Prop := l.Pairwise (fun x y => Op.bytesLess (key x) (key y) = true)
theorem okF_iff : ∀ (l : List It) (p : Option It), okF p l = true ↔ (∀ x ∈ l, okI x = true) ∧ Asc (p.toList ++ l)
  | [], none => by simp [okF, Asc]
  | [], some q => by simp [okF, Asc]
  | x :: l, none => by
    have ih := okF_iff l (some x)
    simp only [okF, Bool.and_true, Bool.and_eq_true, ih, Option.toList, List.nil_append, List.mem_cons, forall_eq_or_imp, List.singleton_append]
    constructor
    · rintro ⟨a, b, c⟩; exact ⟨⟨a, b⟩, c⟩
    · rintro ⟨⟨a, b⟩, c⟩; exact ⟨a, b, c⟩
  | x :: l, some q => by
    have ih := okF_iff l (some x)
    simp only [okF, Bool.and_eq_true, ih, Option.toList, List.mem_cons, forall_eq_or_imp, List.singleton_append]
    constructor
    · rintro ⟨⟨a, d⟩, b, c⟩
      refine ⟨⟨a, b⟩, ?_⟩
      unfold Asc at c ⊢
      refine List.pairwise_cons.2 ⟨fun y hy => ?_, c⟩
      rcases List.mem_cons.1 hy with rfl | hy
      · exact d
      · exact bl_trans d ((List.pairwise_cons.1 c).1 y hy)
    · rintro ⟨⟨a, b⟩, c⟩
      unfold Asc at c ⊢
      have := List.pairwise_cons.1 c
      exact ⟨⟨a, this.1 x (List.mem_cons_self ..)⟩, b, this.2⟩
theorem okL_iff (l : List It) : okL l = true ↔ (∀ x ∈ l, okI x = true) ∧ Asc l := by
  unfold okL; rw [okF_iff]; simp
theorem Asc.cons {x : It} {l : List It} (h : Asc (x :: l)) : (∀ y ∈ l, Op.bytesLess (key x) (key y) = true) ∧ Asc l := List.pairwise_cons.1 h
theorem Asc.parts {a b : List It} (h : Asc (a ++ b)) : Asc a ∧ Asc b ∧ ∀ x ∈ a, ∀ y ∈ b, Op.bytesLess (key x) (key y) = true := List.pairwise_append.1 h
theorem Asc.app {a b : List It} (h1 : Asc a) (h2 : Asc b) (h3 : ∀ x ∈ a, ∀ y ∈ b, Op.bytesLess (key x) (key y) = true) : Asc (a ++ b) := List.pairwise_append.2 ⟨h1, h2, h3⟩
def okc (c : Ch) : Bool := okK c.f0 && decide (c.f2.size ≤ 160) && (c.f1 || decide (c.f2.toList = []))
def okC (l : List Ch) : Bool := l.all okc
-- where a key is
def lo (l : List It) (k : List UInt8) : List It := l.takeWhile (fun x => Op.bytesLess (key x) k)
def up (l : List It) (k : List UInt8) : List It := l.dropWhile (fun x => Op.bytesLess (key x) k)
def fnd (l : List It) (k : List UInt8) : Bool := match up l k with | x :: _ => key x == k | [] => false
def hi (l : List It) (k : List UInt8) : List It := (up l k).dropWhile (fun x => key x == k)
def new_ (c : Ch) : List It := if c.f1 then [⟨c.f0, c.f2⟩] else []
def put (l : List It) (c : Ch) : List It := lo l (ck c) ++ new_ c ++ hi l (ck c)
theorem lo_up (l : List It) (k : List UInt8) : lo l k ++ up l k = l := List.takeWhile_append_dropWhile
theorem lo_mem {l : List It} {k : List UInt8} : ∀ x ∈ lo l k, Op.bytesLess (key x) k = true := by
  unfold lo
  induction l with
  | nil => simp
  | cons y l ih =>
    intro x hx
    rw [List.takeWhile_cons] at hx
    split at hx
    next h => rcases List.mem_cons.1 hx with rfl | hx
              · exact h
              · exact ih x hx
    next h => cases hx
theorem up_head {l : List It} {k : List UInt8} {x : It} {r : List It} (h : up l k = x :: r) : Op.bytesLess (key x) k = false := by
  unfold up at h
  induction l with
  | nil => simp at h
  | cons y l ih =>
    rw [List.dropWhile_cons] at h
    split at h
    next => exact ih h
    next hn => injection h with h1 _; subst h1; simpa using hn
theorem up_ge {l : List It} (ha : Asc l) {k : List UInt8} : ∀ x ∈ up l k, Op.bytesLess (key x) k = false := by
  intro x hx
  cases hu : up l k with
  | nil => rw [hu] at hx; cases hx
  | cons y r =>
    have h1 := up_head hu
    rw [hu] at hx
    rcases List.mem_cons.1 hx with rfl | hx
    · exact h1
    · have h2 : Asc (lo l k ++ y :: r) := by rw [← hu, lo_up]; exact ha
      have h3 := (h2.parts.2.1.cons).1 x hx
      cases hb : Op.bytesLess (key x) k
      · rfl
      · have := bl_trans h3 hb; rw [this] at h1; cases h1
/-- The three parts of a right list about a key. -/
theorem parts_of {l : List It} (ha : Asc l) (k : List UInt8) : ∃ mid, l = lo l k ++ mid ++ hi l k ∧ up l k = mid ++ hi l k ∧ (∀ x ∈ lo l k, Op.bytesLess (key x) k = true) ∧ (∀ x ∈ hi l k, Op.bytesLess k (key x) = true) ∧
    ((mid = [] ∧ fnd l k = false) ∨ (∃ x, mid = [x] ∧ key x = k ∧ fnd l k = true)) := by
  cases hu : up l k with
  | nil =>
    have hh : hi l k = [] := by unfold hi; rw [hu]; rfl
    refine ⟨[], ?_, by rw [hh]; rfl, lo_mem, by rw [hh]; simp, .inl ⟨rfl, by unfold fnd; rw [hu]⟩⟩
    have := lo_up l k
    rw [hu] at this
    rw [hh]; simpa using this.symm
  | cons y r =>
    have h2 : Asc (lo l k ++ y :: r) := by rw [← hu, lo_up]; exact ha
    have hr := (h2.parts.2.1.cons).1
    have hy := up_head hu
    have hl : l = lo l k ++ y :: r := by rw [← hu, lo_up]
    by_cases he : key y = k
    · have hd : r.dropWhile (fun x => key x == k) = r := by
        cases r with
        | nil => rfl
        | cons z r =>
          have hz := hr z (List.mem_cons_self ..)
          have : (key z == k) = false := by rw [beq_eq_false_iff_ne]; rintro hk; rw [← he] at hk; exact bl_ne hz hk.symm
          rw [List.dropWhile_cons]; simp [this]
      have hh : hi l k = r := by
        unfold hi; rw [hu, List.dropWhile_cons]
        simp only [he, beq_self_eq_true, if_true]
        exact hd
      refine ⟨[y], by rw [hh]; simpa using hl, by rw [hh]; rfl, lo_mem, ?_, .inr ⟨y, rfl, he, by unfold fnd; rw [hu]; simpa using he⟩⟩
      rw [hh]; intro x hx; rw [← he]; exact hr x hx
    · have hk : Op.bytesLess k (key y) = true := by
        rcases bl_total (key y) k with h | h | h
        · exact absurd h he
        · have h' : Op.bytesLess (key y) k = true := h
          rw [hy] at h'; cases h'
        · exact h
      have hb : (key y == k) = false := by rw [beq_eq_false_iff_ne]; exact he
      have hh : hi l k = y :: r := by unfold hi; rw [hu, List.dropWhile_cons]; simp [hb]
      refine ⟨[], by rw [hh]; simpa using hl, by rw [hh]; rfl, lo_mem, ?_, .inl ⟨rfl, by unfold fnd; rw [hu]; exact hb⟩⟩
      rw [hh]; intro x hx
      rcases List.mem_cons.1 hx with rfl | hx
      · exact hk
      · exact bl_trans hk (hr x hx)
theorem lo_parts {pre rest : List It} {k : List UInt8} (h1 : ∀ x ∈ pre, Op.bytesLess (key x) k = true) (h2 : ∀ x ∈ rest, Op.bytesLess (key x) k = false) : lo (pre ++ rest) k = pre ∧ up (pre ++ rest) k = rest := by
  unfold lo up
  induction pre with
  | nil =>
    cases rest with
    | nil => exact ⟨rfl, rfl⟩
    | cons x r => have := h2 x (List.mem_cons_self ..); simp [this]
  | cons x pre ih =>
    have hx := h1 x (List.mem_cons_self ..)
    have := ih (fun y hy => h1 y (List.mem_cons_of_mem _ hy))
    simp [hx, this.1, this.2]
theorem put_parts {pre mid post : List It} {c : Ch} (h1 : ∀ x ∈ pre, Op.bytesLess (key x) (ck c) = true) (h2 : ∀ x ∈ mid, key x = ck c) (h3 : ∀ x ∈ post, Op.bytesLess (ck c) (key x) = true) : put (pre ++ mid ++ post) c = pre ++ new_ c ++ post := by
  have hr : ∀ x ∈ mid ++ post, Op.bytesLess (key x) (ck c) = false := by
    intro x hx
    rcases List.mem_append.1 hx with hx | hx
    · rw [h2 x hx]; exact bl_irrefl _
    · exact bl_asymm (h3 x hx)
  rw [List.append_assoc]
  have hl := lo_parts h1 hr
  unfold put hi
  rw [hl.1, hl.2]
  congr 1
  have hd : post.dropWhile (fun x => key x == ck c) = post := by
    cases post with
    | nil => rfl
    | cons z r =>
      have : (key z == ck c) = false := by rw [beq_eq_false_iff_ne]; exact (bl_ne (h3 z (List.mem_cons_self ..))).symm
      simp [this]
  induction mid with
  | nil => exact hd
  | cons x mid ih =>
    have hx : (key x == ck c) = true := by simpa using h2 x (List.mem_cons_self ..)
    rw [List.cons_append, List.dropWhile_cons, if_pos hx]
    exact ih (fun y hy => h2 y (List.mem_cons_of_mem _ hy)) (fun y hy => hr y (by simp at hy ⊢; exact .inr hy)) (lo_parts h1 (fun y hy => hr y (by simp at hy ⊢; exact .inr hy)))
theorem new_ok {c : Ch} (hc : okc c = true) : ∀ x ∈ new_ c, okI x = true := by
  intro x hx
  unfold new_ at hx
  split at hx
  next => rw [List.mem_singleton.1 hx]; unfold okc at hc; unfold okI; simp only [Bool.and_eq_true] at hc ⊢; exact ⟨hc.1.1, hc.1.2⟩
  next => cases hx
theorem new_key {c : Ch} : ∀ x ∈ new_ c, key x = ck c := by
  intro x hx
  unfold new_ at hx
  split at hx
  next => rw [List.mem_singleton.1 hx]
  next => cases hx
theorem new_asc (c : Ch) : Asc (new_ c) := by
  unfold new_ Asc
  split <;> simp
theorem put_ok {l : List It} {c : Ch} (hl : okL l = true) (hc : okc c = true) : okL (put l c) = true := by
  rw [okL_iff] at hl ⊢
  obtain ⟨h1, h2⟩ := hl
  obtain ⟨mid, hp, hu, hlo, hhi, hm⟩ := parts_of h2 (ck c)
  have hA : Asc (lo l (ck c) ++ (mid ++ hi l (ck c))) := by rw [← List.append_assoc, ← hp]; exact h2
  have hmem : ∀ x, x ∈ lo l (ck c) ∨ x ∈ hi l (ck c) → x ∈ l := by
    intro x hx; rw [hp]; simp only [List.mem_append]; rcases hx with hx | hx
    · exact .inl (.inl hx)
    · exact .inr hx
  refine ⟨fun x hx => ?_, ?_⟩
  · unfold put at hx
    simp only [List.mem_append] at hx
    rcases hx with (hx | hx) | hx
    · exact h1 x (hmem x (.inl hx))
    · exact new_ok hc x hx
    · exact h1 x (hmem x (.inr hx))
  · unfold put
    rw [List.append_assoc]
    refine hA.parts.1.app ((new_asc c).app hA.parts.2.1.parts.2.1 fun x hx y hy => by rw [new_key x hx]; exact hhi y hy) fun x hx y hy => ?_
    rcases List.mem_append.1 hy with hy | hy
    · rw [new_key y hy]; exact hlo x hx
    · exact hA.parts.2.2 x hx y (List.mem_append_right _ hy)
theorem put_len (l : List It) (c : Ch) : (put l c).length ≤ l.length + 1 := by
  have h1 := congrArg List.length (lo_up l (ck c))
  rw [List.length_append] at h1
  have h2 : (hi l (ck c)).length ≤ (up l (ck c)).length := List.Sublist.length_le (List.dropWhile_sublist _)
  unfold put new_
  simp only [List.length_append]
  split <;> simp <;> omega
-- what is there
def look (l : List It) (k : List UInt8) : Option ByteArray := (l.find? (fun x => key x == k)).map (·.f1)
theorem look_app (a b : List It) (k : List UInt8) : look (a ++ b) k = (look a k).or (look b k) := by
  unfold look; rw [List.find?_append]; cases h : a.find? (fun x => key x == k) <;> simp
theorem look_none {l : List It} {k : List UInt8} (h : ∀ x ∈ l, key x ≠ k) : look l k = none := by
  unfold look
  rw [List.find?_eq_none.2 (fun x hx => by simpa using h x hx)]; rfl
theorem look_cons (x : It) (l : List It) (k : List UInt8) : look (x :: l) k = if key x = k then some x.f1 else look l k := by
  unfold look
  rw [List.find?_cons]
  by_cases h : key x = k
  · simp [h]
  · have : (key x == k) = false := by rw [beq_eq_false_iff_ne]; exact h
    rw [if_neg h, this]
theorem look_put {l : List It} (ha : Asc l) (c : Ch) (k : List UInt8) : look (put l c) k = if ck c = k then (if c.f1 then some c.f2 else none) else look l k := by
  obtain ⟨mid, hp, hu, hlo, hhi, hm⟩ := parts_of ha (ck c)
  have hl : look l k = ((look (lo l (ck c)) k).or (look mid k)).or (look (hi l (ck c)) k) := by
    have := congrArg (fun z => look z k) hp
    simp only [look_app] at this
    exact this
  unfold put
  rw [look_app, look_app, hl]
  by_cases hk : ck c = k
  · subst hk
    rw [look_none (l := lo l (ck c)) (fun x hx => bl_ne (hlo x hx)), look_none (l := hi l (ck c)) (fun x hx => (bl_ne (hhi x hx)).symm)]
    simp only [if_true, Option.none_or, Option.or_none]
    unfold new_
    by_cases hf : c.f1 = true
    · simp [hf, look_cons]
    · simp only [hf, if_false, Bool.false_eq_true]; rfl
  · rw [if_neg hk, look_none (l := new_ c) (fun x hx => by rw [new_key x hx]; exact hk), look_none (l := mid) (fun x hx => by
      rcases hm with ⟨rfl, _⟩ | ⟨y, rfl, hy, _⟩
      · cases hx
      · rw [List.mem_singleton.1 hx, hy]; exact hk)]
theorem look_ext : ∀ {a b : List It}, Asc a → Asc b → (∀ k, (look a k).map (·.toList) = (look b k).map (·.toList)) → a = b
  | [], [], _, _, _ => rfl
  | [], y :: b, _, _, h => by have := h (key y); rw [look_cons] at this; simp [look] at this
  | x :: a, [], _, _, h => by have := h (key x); rw [look_cons] at this; simp [look] at this
  | x :: a, y :: b, ha, hb, h => by
    have hx := ha.cons.1
    have hy := hb.cons.1
    rcases bl_total (key x) (key y) with hk | hk | hk
    · have h0 := h (key x)
      rw [look_cons, look_cons, if_pos rfl, if_pos hk.symm] at h0
      obtain rfl : x = y := it_ext hk (by simpa using h0)
      refine congrArg (x :: ·) (look_ext ha.cons.2 hb.cons.2 fun k => ?_)
      by_cases hkk : key x = k
      · subst hkk
        rw [look_none (fun z hz => (bl_ne (hx z hz)).symm), look_none (fun z hz => (bl_ne (hy z hz)).symm)]
      · have := h k
        rwa [look_cons, look_cons, if_neg hkk, if_neg hkk] at this
    · have h0 := h (key x)
      rw [look_cons, if_pos rfl, look_none (l := y :: b) (fun z hz => by
        rcases List.mem_cons.1 hz with rfl | hz
        · exact (bl_ne hk).symm
        · exact (bl_ne (bl_trans hk (hy z hz))).symm)] at h0
      cases h0
    · have h0 := h (key y)
      rw [look_cons (x := y), if_pos rfl, look_none (l := x :: a) (fun z hz => by
        rcases List.mem_cons.1 hz with rfl | hz
        · exact (bl_ne hk).symm
        · exact (bl_ne (bl_trans hk (hx z hz))).symm)] at h0
      cases h0
-- the reference's Done
def doneR (c : Ch) : Bool → List It → List It
  | f, [] => if f then [] else [⟨c.f0, c.f2⟩]
  | f, x :: l => (if !f && !Op.bytesLess (key x) (ck c) then [⟨c.f0, c.f2⟩] else []) ++ (if key x = ck c then [] else [x]) ++ doneR c (f || !Op.bytesLess (key x) (ck c)) l
theorem doneR_true (c : Ch) : ∀ l : List It, (∀ x ∈ l, key x ≠ ck c) → doneR c true l = l
  | [], _ => rfl
  | x :: l, h => by
    unfold doneR
    rw [if_neg (h x (List.mem_cons_self ..))]
    simp only [Bool.not_true, Bool.false_and, Bool.false_eq_true, if_false, List.nil_append, Bool.true_or, List.cons_append, List.cons.injEq, true_and]
    exact doneR_true c l (fun y hy => h y (List.mem_cons_of_mem _ hy))
theorem doneR_put {l : List It} (ha : Asc l) (c : Ch) : doneR c (!c.f1) l = put l c := by
  obtain ⟨mid, hp, hu, hlo, hhi, hm⟩ := parts_of ha (ck c)
  have pre : ∀ (p r : List It), (∀ x ∈ p, Op.bytesLess (key x) (ck c) = true) → doneR c (!c.f1) (p ++ r) = p ++ doneR c (!c.f1) r := by
    intro p r hp
    induction p with
    | nil => rfl
    | cons x p ih =>
      have hx := hp x (List.mem_cons_self ..)
      rw [List.cons_append]
      conv => lhs; unfold doneR
      rw [if_neg (bl_ne hx), hx]
      simp only [Bool.not_true, Bool.and_false, Bool.false_eq_true, if_false, List.nil_append, Bool.or_false, List.cons_append, List.cons.injEq, true_and]
      exact ih (fun y hy => hp y (List.mem_cons_of_mem _ hy))
  conv => lhs; rw [hp, List.append_assoc]
  rw [pre _ _ hlo]
  unfold put
  rw [List.append_assoc]
  congr 1
  have hne : ∀ x ∈ hi l (ck c), key x ≠ ck c := fun x hx => (bl_ne (hhi x hx)).symm
  rcases hm with ⟨rfl, _⟩ | ⟨x, rfl, hx, _⟩
  · rw [List.nil_append]
    cases hh : hi l (ck c) with
    | nil => cases hf : c.f1 <;> simp [doneR, new_, hf]
    | cons y r =>
      rw [hh] at hhi hne
      have hy := bl_asymm (hhi y (List.mem_cons_self ..))
      conv => lhs; unfold doneR
      rw [if_neg (hne y (List.mem_cons_self ..)), hy]
      have ht := doneR_true c r (fun z hz => hne z (List.mem_cons_of_mem _ hz))
      cases hf : c.f1 <;> simp [new_, hf, ht]
  · rw [List.singleton_append]
    conv => lhs; unfold doneR
    have hb : Op.bytesLess (key x) (ck c) = false := by rw [hx]; exact bl_irrefl _
    rw [if_pos hx, hb]
    have ht := doneR_true c _ hne
    cases hf : c.f1 <;> simp [new_, hf, ht]
def apl (l : List It) (cs : List Ch) : List It := cs.foldl put l
theorem apl_ok : ∀ {cs : List Ch} {l : List It}, okL l = true → okC cs = true → okL (apl l cs) = true
  | [], _, h, _ => h
  | c :: cs, l, h, hc => by
    unfold okC at hc
    rw [List.all_cons, Bool.and_eq_true] at hc
    exact apl_ok (cs := cs) (put_ok h hc.1) hc.2
theorem apl_len : ∀ (cs : List Ch) (l : List It), (apl l cs).length ≤ l.length + cs.length
  | [], l => by simp [apl]
  | c :: cs, l => by
    have := apl_len cs (put l c)
    have h2 := put_len l c
    simp only [apl, List.foldl_cons, List.length_cons] at this ⊢
    omega
-- the changes between two
def dl (x : It) : Ch := ⟨x.f0, false, ⟨#[]⟩⟩
def ad (x : It) : Ch := ⟨x.f0, true, x.f1⟩
def diffL : List It → List It → List Ch
  | a, [] => a.map dl
  | [], y :: b => ad y :: diffL [] b
  | x :: a, y :: b => if Op.bytesLess (key x) (key y) then dl x :: diffL a (y :: b) else if key x = key y then (if x.f1.toList = y.f1.toList then diffL a b else ad y :: diffL a b) else ad y :: diffL (x :: a) b
termination_by a b => a.length + b.length
theorem diffL_len : ∀ (a b : List It), (diffL a b).length ≤ a.length + b.length
  | a, [] => by rw [diffL]; simp
  | [], y :: b => by have := diffL_len [] b; rw [diffL]; simp at this ⊢; omega
  | x :: a, y :: b => by
    rw [diffL]
    have h1 := diffL_len a (y :: b)
    have h2 := diffL_len a b
    have h3 := diffL_len (x :: a) b
    simp only [List.length_cons] at h1 h2 h3 ⊢
    split
    · simp; omega
    · split
      · split
        · omega
        · simp; omega
      · simp; omega
termination_by a b => a.length + b.length
theorem diffL_key : ∀ {a b : List It} {c : Ch}, c ∈ diffL a b → (∃ x ∈ a, ck c = key x) ∨ (∃ y ∈ b, ck c = key y)
  | a, [], c, h => by
    rw [diffL] at h
    obtain ⟨x, hx, rfl⟩ := List.mem_map.1 h
    exact .inl ⟨x, hx, rfl⟩
  | [], y :: b, c, h => by
    rw [diffL] at h
    rcases List.mem_cons.1 h with rfl | h
    · exact .inr ⟨y, List.mem_cons_self .., rfl⟩
    · rcases diffL_key h with ⟨x, hx, _⟩ | ⟨z, hz, e⟩
      · cases hx
      · exact .inr ⟨z, List.mem_cons_of_mem _ hz, e⟩
  | x :: a, y :: b, c, h => by
    rw [diffL] at h
    have up2 : ∀ {a' b' : List It}, ((∃ x ∈ a', ck c = key x) ∨ (∃ y ∈ b', ck c = key y)) → (∀ z ∈ a', z ∈ x :: a) → (∀ z ∈ b', z ∈ y :: b) → (∃ z ∈ x :: a, ck c = key z) ∨ (∃ z ∈ y :: b, ck c = key z) := by
      rintro a' b' (⟨z, hz, e⟩ | ⟨z, hz, e⟩) h1 h2
      · exact .inl ⟨z, h1 z hz, e⟩
      · exact .inr ⟨z, h2 z hz, e⟩
    have hy : ck (ad y) = key y := rfl
    split at h
    · rcases List.mem_cons.1 h with rfl | h
      · exact .inl ⟨x, List.mem_cons_self .., rfl⟩
      · exact up2 (diffL_key h) (fun z hz => List.mem_cons_of_mem _ hz) (fun z hz => hz)
    · split at h
      · split at h
        · exact up2 (diffL_key h) (fun z hz => List.mem_cons_of_mem _ hz) (fun z hz => List.mem_cons_of_mem _ hz)
        · rcases List.mem_cons.1 h with rfl | h
          · exact .inr ⟨y, List.mem_cons_self .., rfl⟩
          · exact up2 (diffL_key h) (fun z hz => List.mem_cons_of_mem _ hz) (fun z hz => List.mem_cons_of_mem _ hz)
      · rcases List.mem_cons.1 h with rfl | h
        · exact .inr ⟨y, List.mem_cons_self .., rfl⟩
        · exact up2 (diffL_key h) (fun z hz => hz) (fun z hz => List.mem_cons_of_mem _ hz)
termination_by a b => a.length + b.length
/-- A property of each of the changes, by the four ways. -/
theorem diffL_each {Q : Ch → Prop} : ∀ {a b : List It}, (∀ x ∈ a, Q (dl x)) → (∀ y ∈ b, Q (ad y)) → ∀ c ∈ diffL a b, Q c
  | a, [], h1, h2, c, h => by
    rw [diffL] at h
    obtain ⟨x, hx, rfl⟩ := List.mem_map.1 h
    exact h1 x hx
  | [], y :: b, h1, h2, c, h => by
    rw [diffL] at h
    rcases List.mem_cons.1 h with rfl | h
    · exact h2 y (List.mem_cons_self ..)
    · exact diffL_each h1 (fun z hz => h2 z (List.mem_cons_of_mem _ hz)) c h
  | x :: a, y :: b, h1, h2, c, h => by
    rw [diffL] at h
    have ha := fun z hz => h1 z (List.mem_cons_of_mem _ hz)
    have hb := fun z hz => h2 z (List.mem_cons_of_mem _ hz)
    split at h
    · rcases List.mem_cons.1 h with rfl | h
      · exact h1 x (List.mem_cons_self ..)
      · exact diffL_each ha h2 c h
    · split at h
      · split at h
        · exact diffL_each ha hb c h
        · rcases List.mem_cons.1 h with rfl | h
          · exact h2 y (List.mem_cons_self ..)
          · exact diffL_each ha hb c h
      · rcases List.mem_cons.1 h with rfl | h
        · exact h2 y (List.mem_cons_self ..)
        · exact diffL_each h1 hb c h
termination_by a b => a.length + b.length
end Go.Proofs.Ytdahmaepfmcpbaa.Z
end

section
/- What the functions of package item, and the reference's, come to. -/
namespace Go.Proofs.Ytdahmaepfmcpbaa.Z
open Go.RowKit Go.Proofs.YtdahmaepfmcpbaaW.PrintWords Go.Proofs.YtdahmaepfmcpbaaW.PrintLast
set_option linter.unusedVariables false
theorem rd_get (l : List It) (i : Nat) (h : i < l.length) : rd_T43 l (i : Int) = l[i] := by
  unfold rd_T43
  rw [Int.toNat_natCast, List.getD_eq_getElem?_getD, List.getElem?_eq_getElem h]; rfl
theorem rdc_get (l : List Ch) (i : Nat) (h : i < l.length) : rd_T39 l (i : Int) = l[i] := by
  unfold rd_T39
  rw [Int.toNat_natCast, List.getD_eq_getElem?_getD, List.getElem?_eq_getElem h]; rfl
theorem right_f (x : It) : item_right.f x.f0 x.f1 = some (okI x) := by
  unfold item_right.f okI okK
  by_cases h : x.f0.toList = []
  · simp [h]
  · rw [if_neg h]
    by_cases h2 : (x.f0.size : Int) ≤ 48
    · rw [if_pos h2]
      have h3 : x.f0.size ≤ 48 := by omega
      have : decide ((x.f1.size : Int) ≤ 160) = decide (x.f1.size ≤ 160) := decide_eq_decide.2 (by omega)
      simp [h, h3, this]
    · rw [if_neg h2]
      have h3 : ¬ x.f0.size ≤ 48 := by omega
      simp [h3]
theorem rightc_f (c : Ch) : item_right.f c.f0 c.f2 = some (okK c.f0 && decide (c.f2.size ≤ 160)) := right_f ⟨c.f0, c.f2⟩
def prv (l : List It) : Nat → Option It
  | 0 => none
  | j + 1 => l[j]?
theorem prv_succ (l : List It) (i : Nat) (h : i < l.length) : prv l (i + 1) = some l[i] := List.getElem?_eq_getElem h
/-- What Check says at a place. -/
def ckS (b : Bool) : Int := if b then 0 else 4
theorem okF_at (l : List It) (i : Nat) (h : i < l.length) : okF (prv l i) (l.drop i) = (okI l[i] && (match prv l i with | none => true | some q => Op.bytesLess (key q) (key l[i])) && okF (prv l (i + 1)) (l.drop (i + 1))) := by
  rw [List.drop_eq_getElem_cons h, prv_succ l i h]
  cases prv l i <;> rfl
theorem itCheck_l0 (l : List It) (hl : l.length ≤ 4398046511104) : ∀ d i : Nat, l.length = i + d → Ev (fun k => item_Check.l0 k l l (l.length : Int) (i : Int)) (ckS (okF (prv l i) (l.drop i)))
  | 0, i, hi => by
    refine Ev.step (fun k => by rw [item_Check.l0]) ?_
    refine Ev.ifn (by omega) (Ev.const ?_)
    rw [List.drop_of_length_le (by omega)]
    unfold okF; rfl
  | d + 1, i, hi => by
    have hlt : i < l.length := by omega
    have ih := itCheck_l0 l hl d (i + 1) (by omega)
    rw [okF_at l i hlt]
    refine Ev.step (fun k => by rw [item_Check.l0]) ?_
    refine Ev.ifp (by omega) (Ev.ifp (by omega) (Ev.ifp (by omega) (Ev.bindc (by rw [rd_get l i hlt]; exact right_f _) ?_)))
    cases hr : okI l[i] with
    | false => exact Ev.ifn (by simp) (Ev.const rfl)
    | true =>
      refine Ev.ifp rfl ?_
      rw [w64 (i := (i : Int) + 1) (by omega) (by omega)]
      cases i with
      | zero =>
        refine Ev.ifn (by omega) (Ev.val ih ?_)
        simp [prv]
      | succ j =>
        refine Ev.ifp (by omega) ?_
        have e : wrap64 (((j + 1 : Nat) : Int) - 1) = (j : Int) := by rw [w64 (by omega) (by omega)]; omega
        rw [e]
        refine Ev.ifp (by omega) (Ev.ifp (by omega) ?_)
        rw [rd_get l j (by omega), rd_get l (j + 1) hlt]
        rw [prv_succ l j (by omega)]
        cases hb : Op.bytesLess (l[j]).f0.toList (l[j + 1]).f0.toList with
        | false =>
          refine Ev.ifn (by simp) (Ev.const ?_)
          simp [ckS, key, hb]
        | true =>
          refine Ev.ifp rfl (Ev.val ih ?_)
          simp [key, hb]
theorem itCheck (l : List It) (hl : l.length ≤ 4398046511104) : Ev (fun k => item_Check.f k l) (ckS (okL l)) := itCheck_l0 l hl l.length 0 (by omega)
-- two texts compared
def cmpS (a b : List UInt8) : Int := if Op.bytesLess a b = true then -1 else if Op.bytesLess b a = true then 1 else 0
theorem compare_f (a b : ByteArray) : cmp_Compare_string.f a b = some (cmpS a.toList b.toList) := by
  unfold cmp_Compare_string.f cmp_isNaN_string.f cmpS
  simp only [bne_self_eq_false, Option.bind_some, Bool.false_eq_true, if_false]
  split
  · rfl
  · split <;> rfl
theorem cmpS_lt (a b : List UInt8) : cmpS a b < 0 ↔ Op.bytesLess a b = true := by
  unfold cmpS
  cases h : Op.bytesLess a b
  · simp only [Bool.false_eq_true, if_false, iff_false]; split <;> omega
  · simp
theorem cmpS_eq (a b : List UInt8) : (cmpS a b == 0) = (a == b) := by
  unfold cmpS
  rcases bl_total a b with rfl | h | h
  · simp [bl_irrefl]
  · have := bl_ne h
    simp [h, this]
  · have := (bl_ne h).symm
    simp [h, bl_asymm h, this]
theorem u64w {i : Int} (h0 : 0 ≤ i) (h1 : i ≤ 9223372036854775807) : IntKind.u64.wrap i = i := by
  simp [IntKind.wrap, IntKind.bits, IntKind.signed]; omega
theorem lo_get {l : List It} (ha : Asc l) (k : List UInt8) (h : Nat) (hh : h < l.length) : Op.bytesLess (key l[h]) k = true ↔ h < (lo l k).length := by
  have e := lo_up l k
  constructor
  · intro hb
    rcases Nat.lt_or_ge h (lo l k).length with hc | hc
    · exact hc
    · have hm : l[h] ∈ up l k := by
        have : l[h] = (lo l k ++ up l k)[h]'(by rw [e]; exact hh) := by simp only [e]
        rw [this, List.getElem_append_right hc]
        exact List.getElem_mem _
      rw [up_ge ha _ hm] at hb; cases hb
  · intro hc
    have hm : l[h] ∈ lo l k := by
      have : l[h] = (lo l k ++ up l k)[h]'(by rw [e]; exact hh) := by simp only [e]
      rw [this, List.getElem_append_left hc]
      exact List.getElem_mem _
    exact lo_mem _ hm
theorem lo_le (l : List It) (k : List UInt8) : (lo l k).length ≤ l.length := by
  have := congrArg List.length (lo_up l k); rw [List.length_append] at this; omega
theorem up_drop (l : List It) (k : List UInt8) : up l k = l.drop (lo l k).length := by
  have := congrArg (List.drop (lo l k).length) (lo_up l k)
  rw [List.drop_left] at this
  exact this
theorem search_l0 {l : List It} (ha : Asc l) (hl : l.length ≤ 4398046511104) (a : ByteArray) : ∀ d i j : Nat, j - i ≤ d → i ≤ (lo l a.toList).length → (lo l a.toList).length ≤ j → j ≤ l.length →
    Ev (fun k => slices_BinarySearchFunc_api_Item_api_Item_string_fn38.l0 k l a (l.length : Int) (i : Int) (j : Int)) (((lo l a.toList).length : Int), fnd l a.toList) := by
  have endd : ∀ i : Nat, i = (lo l a.toList).length → ∀ j : Nat, ¬ ((i : Int) < (j : Int)) → Ev (fun k => slices_BinarySearchFunc_api_Item_api_Item_string_fn38.l0 k l a (l.length : Int) (i : Int) (j : Int)) (((lo l a.toList).length : Int), fnd l a.toList) := by
    intro i hi j hj
    refine Ev.step (fun k => by rw [slices_BinarySearchFunc_api_Item_api_Item_string_fn38.l0]) (Ev.ifn hj ?_)
    have hu := up_drop l a.toList
    rw [← hi] at hu
    rcases Nat.lt_or_ge i l.length with hlt | hge
    · refine Ev.ifp (by omega) (Ev.ifp (by omega) (Ev.ifp (by omega) ?_))
      refine Ev.bindc (show item_place_1.f _ _ _ = some _ by unfold item_place_1.f; rw [compare_f]; rfl) (Ev.const ?_)
      rw [rd_get l i hlt, cmpS_eq, ← hi]
      unfold fnd
      rw [hu, List.drop_eq_getElem_cons hlt]
    · refine Ev.ifn (by omega) (Ev.const ?_)
      rw [← hi]
      unfold fnd
      rw [hu, List.drop_of_length_le hge]
  intro d
  induction d with
  | zero =>
    intro i j hd h1 h2 h3
    exact endd i (by omega) j (by omega)
  | succ d ih =>
    intro i j hd h1 h2 h3
    by_cases hij : i < j
    · refine Ev.step (fun k => by rw [slices_BinarySearchFunc_api_Item_api_Item_string_fn38.l0]) (Ev.ifp (by omega) ?_)
      have hm : wrap64 ((IntKind.u64.wrap (wrap64 ((i : Int) + (j : Int)))) / 2) = (((i + j) / 2 : Nat) : Int) := by
        rw [w64 (i := (i : Int) + (j : Int)) (by omega) (by omega), u64w (by omega) (by omega), w64 (by omega) (by omega)]; omega
      rw [hm]
      obtain ⟨h, hh⟩ : ∃ h, h = (i + j) / 2 := ⟨_, rfl⟩
      have hh1 : i ≤ h := by omega
      have hh2 : h < j := by omega
      rw [← hh]
      have hlt : h < l.length := by omega
      refine Ev.ifp (by omega) (Ev.ifp (by omega) ?_)
      refine Ev.bindc (show item_place_1.f _ _ _ = some _ by unfold item_place_1.f; rw [compare_f]; rfl) ?_
      rw [rd_get l h hlt]
      have hg := lo_get ha a.toList h hlt
      by_cases hb : Op.bytesLess (key l[h]) a.toList = true
      · refine Ev.ifp ((cmpS_lt _ _).2 hb) ?_
        have e : wrap64 ((h : Int) + 1) = ((h + 1 : Nat) : Int) := by rw [w64 (by omega) (by omega)]; omega
        rw [e]
        exact ih (h + 1) j (by omega) (by have := hg.1 hb; omega) h2 h3
      · refine Ev.ifn (fun hc => hb ((cmpS_lt _ _).1 hc)) ?_
        refine ih i h (by omega) h1 ?_ (by omega)
        rcases Nat.lt_or_ge h (lo l a.toList).length with hc | hc
        · exact absurd (hg.2 hc) hb
        · exact hc
    · exact endd i (by omega) j (by omega)
theorem place_f {l : List It} (ha : Asc l) (hl : l.length ≤ 4398046511104) (a : ByteArray) : Ev (fun k => item_place.f k l a) (((lo l a.toList).length : Int), fnd l a.toList) := by
  unfold item_place.f slices_BinarySearchFunc_api_Item_api_Item_string_fn38.f
  exact Ev.bind (search_l0 ha hl a l.length 0 l.length (by omega) (by omega) (lo_le _ _) (Nat.le_refl _)) (Ev.const rfl)
/-- Where a key is: what stands there. -/
theorem at_fnd {l : List It} (ha : Asc l) {k : List UInt8} (hf : fnd l k = true) : ∃ h : (lo l k).length < l.length, key (l[(lo l k).length]) = k ∧ l = lo l k ++ [l[(lo l k).length]] ++ hi l k := by
  obtain ⟨mid, hp, hu, hlo, hhi, hm⟩ := parts_of ha k
  rcases hm with ⟨_, h⟩ | ⟨x, rfl, hx, _⟩
  · rw [h] at hf; cases hf
  · have hlen := congrArg List.length hp
    simp only [List.length_append, List.length_singleton] at hlen
    have hlt : (lo l k).length < l.length := by omega
    have hg : l[(lo l k).length] = x := by
      have : l[(lo l k).length]? = some x := by
        have h2 := congrArg (fun z => z[(lo l k).length]?) hp
        simp only [List.append_assoc] at h2
        rw [List.getElem?_append_right (Nat.le_refl _), Nat.sub_self] at h2
        simpa using h2
      rw [List.getElem?_eq_getElem hlt] at this
      exact Option.some.inj this
    exact ⟨hlt, by rw [hg]; exact hx, by rw [hg]; exact hp⟩
theorem not_fnd {l : List It} (ha : Asc l) {k : List UInt8} (hf : fnd l k = false) : l = lo l k ++ hi l k := by
  obtain ⟨mid, hp, hu, hlo, hhi, hm⟩ := parts_of ha k
  rcases hm with ⟨rfl, _⟩ | ⟨x, rfl, hx, h⟩
  · simpa using hp
  · rw [h] at hf; cases hf
theorem hi_gt {l : List It} (ha : Asc l) {k : List UInt8} : ∀ x ∈ hi l k, Op.bytesLess k (key x) = true := by
  obtain ⟨mid, hp, hu, hlo, hhi, hm⟩ := parts_of ha k
  exact hhi
theorem look_fnd {l : List It} (ha : Asc l) {k : List UInt8} (hf : fnd l k = true) (h : (lo l k).length < l.length) : look l k = some (l[(lo l k).length]).f1 := by
  obtain ⟨h2, hk, hp⟩ := at_fnd ha hf
  have e := congrArg (fun z => look z k) hp
  simp only [look_app] at e
  rw [e, look_none (fun x hx => bl_ne (lo_mem x hx)), look_cons, if_pos hk]
  simp
theorem look_not {l : List It} (ha : Asc l) {k : List UInt8} (hf : fnd l k = false) : look l k = none := by
  have e := congrArg (fun z => look z k) (not_fnd ha hf)
  simp only [look_app] at e
  rw [e, look_none (fun x hx => bl_ne (lo_mem x hx)), look_none (fun x hx => (bl_ne (hi_gt ha x hx)).symm)]; rfl
def getS (l : List It) (k : List UInt8) : ByteArray × Int := if okL l = true then (match look l k with | some v => (v, 0) | none => (⟨#[]⟩, 5)) else (⟨#[]⟩, 4)
theorem itGet (l : List It) (hl : l.length ≤ 4398046511104) (a : ByteArray) : Ev (fun k => item_Get.f k l a) (getS l a.toList) := by
  unfold item_Get.f
  refine Ev.bind (itCheck l hl) ?_
  by_cases ho : okL l = true
  · have ha := ((okL_iff l).1 ho).2
    unfold getS
    rw [if_pos ho]
    refine Ev.ifp (by rw [ho]; rfl) (Ev.bind (place_f ha hl a) ?_)
    cases hf : fnd l a.toList with
    | true =>
      obtain ⟨h, hk, _⟩ := at_fnd ha hf
      refine Ev.ifp rfl (Ev.ifp (by simp only; omega) (Ev.ifp (by simp only; omega) (Ev.const ?_)))
      rw [look_fnd ha hf h, rd_get l _ h]
    | false =>
      refine Ev.ifn (by simp) (Ev.const ?_)
      rw [look_not ha hf]
  · have ho' : okL l = false := by simpa using ho
    unfold getS
    rw [ho']
    exact Ev.ifn (by decide) (Ev.const rfl)
theorem look_at {l : List It} (ha : Asc l) (j : Nat) (h : j < l.length) : look l (key l[j]) = some (l[j]).f1 := by
  have e : l = l.take j ++ l[j] :: l.drop (j + 1) := by rw [← List.drop_eq_getElem_cons h, List.take_append_drop]
  have ha2 : Asc (l.take j ++ l[j] :: l.drop (j + 1)) := e ▸ ha
  have e2 := congrArg (fun z => look z (key l[j])) e
  simp only [look_app] at e2
  rw [e2, look_none (fun x hx => bl_ne (ha2.parts.2.2 x hx _ (List.mem_cons_self ..))), look_cons, if_pos rfl]; rfl
end Go.Proofs.Ytdahmaepfmcpbaa.Z
end

section
/- What Under, Same and SameChanges come to. -/
namespace Go.Proofs.Ytdahmaepfmcpbaa.Z
open Go.RowKit Go.Proofs.YtdahmaepfmcpbaaW.PrintWords Go.Proofs.YtdahmaepfmcpbaaW.PrintLast
set_option linter.unusedVariables false
def hp (p : List UInt8) (x : It) : Bool := p.isPrefixOf (key x)
theorem cut_pre (a b : ByteArray) : ((a.extract 0 ((b.size : Int) : Int).toNat).toList = b.toList) ↔ b.toList.isPrefixOf a.toList = true := by
  rw [Int.toNat_natCast, Lib.extract_eq, ByteArray.toList_eq, ByteArray.toList_eq, ByteArray.toList_eq, List.isPrefixOf_iff_prefix, List.prefix_iff_eq_take]
  have hs : b.size = b.data.toList.length := by rw [Array.length_toList]; rfl
  rw [hs]
  simp only [List.drop_zero, Nat.sub_zero]
  exact eq_comm
theorem pre_size {a b : ByteArray} (h : b.toList.isPrefixOf a.toList = true) : b.size ≤ a.size := by
  rw [ByteArray.toList_eq, ByteArray.toList_eq, List.isPrefixOf_iff_prefix] at h
  have := h.length_le
  simpa using this
theorem hasPrefix_f (a b : ByteArray) : strings_HasPrefix.f a b = some (b.toList.isPrefixOf a.toList) := by
  unfold strings_HasPrefix.f stringslite_HasPrefix.f
  by_cases h : (a.size : Int) ≥ (b.size : Int)
  · rw [if_pos h, if_pos (by omega), if_pos (by omega)]
    have := cut_pre a b
    simp only [Option.bind_some, Option.some.injEq]
    rw [Bool.eq_iff_iff, beq_iff_eq]
    exact this
  · rw [if_neg h]
    have hn : b.toList.isPrefixOf a.toList = false := by
      cases hb : b.toList.isPrefixOf a.toList
      · rfl
      · have := pre_size hb; omega
    rw [hn]; rfl
theorem pre_not_lt : ∀ {p k : List UInt8}, p.isPrefixOf k = true → Op.bytesLess k p = false
  | [], [], _ => rfl
  | [], _ :: _, _ => rfl
  | _ :: _, [], h => by simp at h
  | c :: p, d :: k, h => by
    simp only [List.isPrefixOf, Bool.and_eq_true, beq_iff_eq] at h
    obtain ⟨rfl, h⟩ := h
    have := pre_not_lt h
    simp [Op.bytesLess, this]
theorem pre_between : ∀ {p x y : List UInt8}, Op.bytesLess x p = false → Op.bytesLess x y = true → p.isPrefixOf y = true → p.isPrefixOf x = true
  | [], _, _, _, _, _ => by simp
  | _ :: _, _, [], _, _, h => by simp at h
  | c :: p, [], d :: y, h, _, _ => by simp [Op.bytesLess] at h
  | c :: p, e :: x, d :: y, h1, h2, h3 => by
    simp only [List.isPrefixOf, Bool.and_eq_true, beq_iff_eq] at h3 ⊢
    obtain ⟨rfl, h3⟩ := h3
    simp only [Op.bytesLess, Bool.or_eq_false_iff, decide_eq_false_iff_not, Bool.and_eq_false_iff, beq_eq_false_iff_ne, Bool.or_eq_true, decide_eq_true_eq, Bool.and_eq_true, beq_iff_eq] at h1 h2
    obtain ⟨h1, h4⟩ := h1
    rcases h2 with h2 | ⟨rfl, h2⟩
    · exact absurd h2 h1
    · refine ⟨rfl, pre_between ?_ h2 h3⟩
      rcases h4 with h4 | h4
      · exact absurd rfl h4
      · exact h4
theorem filter_up {p : List UInt8} : ∀ {u : List It}, Asc u → (∀ x ∈ u, Op.bytesLess (key x) p = false) → u.filter (hp p) = u.takeWhile (hp p)
  | [], _, _ => rfl
  | x :: u, ha, h => by
    cases hx : hp p x with
    | true =>
      rw [List.filter_cons_of_pos hx, List.takeWhile_cons_of_pos hx]
      exact congrArg _ (filter_up ha.cons.2 (fun y hy => h y (List.mem_cons_of_mem _ hy)))
    | false =>
      rw [List.takeWhile_cons_of_neg (by simp [hx]), List.filter_eq_nil_iff]
      intro y hy
      rcases List.mem_cons.1 hy with rfl | hy
      · simp [hx]
      · intro hyp
        have := pre_between (h x (List.mem_cons_self ..)) (ha.cons.1 y hy) hyp
        unfold hp at hx; rw [hx] at this; cases this
theorem filter_pre {l : List It} (ha : Asc l) (p : List UInt8) : l.filter (hp p) = (up l p).takeWhile (hp p) := by
  have h2 : Asc (lo l p ++ up l p) := by rw [lo_up]; exact ha
  rw [← filter_up h2.parts.2.1 (up_ge ha)]
  conv => lhs; rw [← lo_up l p]
  rw [List.filter_append, List.filter_eq_nil_iff.2, List.nil_append]
  intro x hx hb
  have := pre_not_lt hb
  rw [lo_mem x hx] at this; cases this
theorem itUnder_l0 (l : List It) (hl : l.length ≤ 4398046511104) (a : ByteArray) (pos : Nat) : ∀ d i : Nat, l.length = i + d → pos ≤ i →
    Ev (fun k => item_Under.l0 k l a (pos : Int) (i : Int)) ((l.take (i + ((l.drop i).takeWhile (hp a.toList)).length)).drop pos, 0) := by
  have hcl : ∀ x : List It, x.length ≤ l.length → slices_Clone_api_Item_api_Item.f x = some x := by
    intro x hx
    unfold slices_Clone_api_Item_api_Item.f
    rw [if_pos (by omega)]
  intro d
  induction d with
  | zero =>
    intro i hi hp_
    refine Ev.step (fun k => by rw [item_Under.l0]) (Ev.ifn (by omega) (Ev.ifp (by omega) (Ev.ifp (by omega) (Ev.ifp (by omega) (Ev.bindc (hcl _ ?_) (Ev.const ?_))))))
    · rw [List.length_drop, List.length_take]; omega
    · rw [List.drop_of_length_le (i := i) (by omega)]; simp
  | succ d ih =>
    intro i hi hp_
    have hlt : i < l.length := by omega
    refine Ev.step (fun k => by rw [item_Under.l0]) (Ev.ifp (by omega) (Ev.ifp (by omega) (Ev.bindc (by rw [rd_get l i hlt]; exact hasPrefix_f _ _) ?_)))
    rw [List.drop_eq_getElem_cons hlt]
    cases hx : a.toList.isPrefixOf (l[i]).f0.toList with
    | true =>
      rw [List.takeWhile_cons_of_pos (show hp a.toList l[i] = true from hx)]
      refine Ev.ifp rfl ?_
      rw [w64 (by omega) (by omega)]
      refine Ev.val (ih (i + 1) (by omega) (by omega)) ?_
      rw [List.length_cons, Nat.add_assoc, Nat.add_comm 1]
    | false =>
      rw [List.takeWhile_cons_of_neg (show ¬ hp a.toList l[i] = true by unfold hp key; rw [hx]; simp)]
      refine Ev.ifn (by simp) (Ev.ifp (by omega) (Ev.ifp (by omega) (Ev.ifp (by omega) (Ev.bindc (hcl _ ?_) (Ev.const ?_)))))
      · rw [List.length_drop, List.length_take]; omega
      · simp
def underS (l : List It) (p : List UInt8) : List It × Int := if okL l = true then (l.filter (hp p), 0) else ([], 4)
theorem itUnder (l : List It) (hl : l.length ≤ 4398046511104) (a : ByteArray) : Ev (fun k => item_Under.f k l a) (underS l a.toList) := by
  unfold item_Under.f
  refine Ev.bind (itCheck l hl) ?_
  by_cases ho : okL l = true
  · have ha := ((okL_iff l).1 ho).2
    unfold underS
    rw [if_pos ho]
    refine Ev.ifp (by rw [ho]; rfl) (Ev.bind (place_f ha hl a) (Ev.val (itUnder_l0 l hl a _ (l.length - (lo l a.toList).length) _ (by have := lo_le l a.toList; omega) (Nat.le_refl _)) ?_))
    rw [filter_pre ha, up_drop, ← List.take_drop]
    exact congrArg (fun z => (z, (0 : Int))) (List.prefix_iff_eq_take.1 (List.takeWhile_prefix _)).symm
  · have ho' : okL l = false := by simpa using ho
    unfold underS
    rw [ho']
    exact Ev.ifn (by decide) (Ev.const rfl)
-- Same
theorem same_l0 (x y : List It) (hl : x.length ≤ 9223372036854775806) (he : x.length = y.length) : ∀ d i : Nat, x.length = i + d →
    ∃ b, Ev (fun k => cambiumref04_Same.l0 k x y (x.length : Int) (i : Int)) b ∧ (b = true ↔ x.drop i = y.drop i) := by
  intro d
  induction d with
  | zero =>
    intro i hi
    refine ⟨true, Ev.step (fun k => by rw [cambiumref04_Same.l0]) (Ev.ifn (by omega) (Ev.const rfl)), ?_⟩
    rw [List.drop_of_length_le (by omega), List.drop_of_length_le (by omega)]; simp
  | succ d ih =>
    intro i hi
    have h1 : i < x.length := by omega
    have h2 : i < y.length := by omega
    obtain ⟨b, hb, hbi⟩ := ih (i + 1) (by omega)
    rw [List.drop_eq_getElem_cons h1, List.drop_eq_getElem_cons h2]
    by_cases hk : x[i] = y[i]
    · refine ⟨b, Ev.step (fun k => by rw [cambiumref04_Same.l0]) (Ev.ifp (by omega) (Ev.ifp (by omega) (Ev.ifp (by omega) (Ev.ifp (by omega) (Ev.ifn ?_ ?_))))), ?_⟩
      · rw [rd_get x i h1, rd_get y i h2, hk]; simp
      · rw [w64 (by omega) (by omega)]; exact hb
      · rw [hbi, List.cons.injEq]; exact ⟨fun h => ⟨hk, h⟩, fun h => h.2⟩
    · refine ⟨false, Ev.step (fun k => by rw [cambiumref04_Same.l0]) (Ev.ifp (by omega) (Ev.ifp (by omega) (Ev.ifp (by omega) (Ev.ifp (by omega) (Ev.ifp ?_ (Ev.const rfl)))))), ?_⟩
      · rw [rd_get x i h1, rd_get y i h2]
        by_cases h3 : (x[i]).f0.toList = (y[i]).f0.toList
        · have h4 : (x[i]).f1.toList ≠ (y[i]).f1.toList := fun h4 => hk (it_ext h3 h4)
          simp [h4]
        · simp [h3]
      · rw [List.cons.injEq]; exact ⟨fun h => (by cases h), fun h => absurd h.1 hk⟩
theorem same_f (x y : List It) (hl : x.length ≤ 9223372036854775806) : ∃ b, Ev (fun k => cambiumref04_Same.f k x y) b ∧ (b = true ↔ x = y) := by
  unfold cambiumref04_Same.f
  by_cases he : x.length = y.length
  · obtain ⟨b, h1, h2⟩ := same_l0 x y hl he x.length 0 (by omega)
    exact ⟨b, Ev.ifp (by omega) h1, by simpa using h2⟩
  · refine ⟨false, Ev.ifn (by omega) (Ev.const rfl), ?_⟩
    simp only [Bool.false_eq_true, false_iff]
    rintro rfl; exact he rfl
theorem same_refl (x : List It) (hl : x.length ≤ 9223372036854775806) : Ev (fun k => cambiumref04_Same.f k x x) true := by
  obtain ⟨b, h1, h2⟩ := same_f x x hl
  rwa [h2.2 rfl] at h1
theorem same_not {x y : List It} (hl : x.length ≤ 9223372036854775806) (h : x ≠ y) : Ev (fun k => cambiumref04_Same.f k x y) false := by
  obtain ⟨b, h1, h2⟩ := same_f x y hl
  have : b = false := by cases b; rfl; exact absurd (h2.1 rfl) h
  rwa [this] at h1
end Go.Proofs.Ytdahmaepfmcpbaa.Z
end

section
/- What Apply and Diff come to. -/
namespace Go.Proofs.Ytdahmaepfmcpbaa.Z
open Go.RowKit Go.Proofs.YtdahmaepfmcpbaaW.PrintWords Go.Proofs.YtdahmaepfmcpbaaW.PrintLast
set_option linter.unusedVariables false
set_option linter.unusedSimpArgs false
theorem itCheckC_l0 (l : List Ch) (hl : l.length ≤ 4398046511104) : ∀ d i : Nat, l.length = i + d → Ev (fun k => item_CheckChanges.l0 k l (l.length : Int) (i : Int)) (ckS ((l.drop i).all okc)) := by
  intro d
  induction d with
  | zero =>
    intro i hi
    refine Ev.step (fun k => by rw [item_CheckChanges.l0]) (Ev.ifn (by omega) (Ev.const ?_))
    rw [List.drop_of_length_le (by omega)]; rfl
  | succ d ih =>
    intro i hi
    have hlt : i < l.length := by omega
    have ih := ih (i + 1) (by omega)
    rw [List.drop_eq_getElem_cons hlt, List.all_cons]
    refine Ev.step (fun k => by rw [item_CheckChanges.l0]) (Ev.ifp (by omega) (Ev.ifp (by omega) (Ev.ifp (by omega) (Ev.bindc (by rw [rdc_get l i hlt]; exact rightc_f _) ?_))))
    rw [rdc_get l i hlt, w64 (by omega) (by omega)]
    unfold okc at ih ⊢
    cases hr : (okK (l[i]).f0 && decide ((l[i]).f2.size ≤ 160)) with
    | false => exact Ev.ifn (by simp) (Ev.const rfl)
    | true =>
      refine Ev.ifp rfl (Ev.ite (fun h => Ev.val ih ?_) (fun h => Ev.ite (fun h2 => Ev.val ih ?_) (fun h2 => Ev.const ?_)))
      · simp [h]
      · simp [h2]
      · simp [h, h2, ckS]
theorem itCheckC (l : List Ch) (hl : l.length ≤ 4398046511104) : Ev (fun k => item_CheckChanges.f k l) (ckS (okC l)) := itCheckC_l0 l hl l.length 0 (by omega)
theorem or_f (x y : Int) : Ev (fun k => cmp_Or_api_Errno.f k [x, y]) (if x = 0 then y else x) := by
  unfold cmp_Or_api_Errno.f
  have r0 : rd [x, y] 0 = x := rfl
  have r1 : rd [x, y] 1 = y := rfl
  have e1 : wrap64 (0 + 1) = 1 := (w64 (by omega) (by omega)).trans rfl
  have e2 : wrap64 (1 + 1) = 2 := (w64 (by omega) (by omega)).trans rfl
  refine Ev.step (fun k => by rw [cmp_Or_api_Errno.l0]) (Ev.ifp (by simp) (Ev.ifp (by omega) (Ev.ifp (by simp) ?_)))
  rw [r0, e1]
  refine Ev.ite (fun h => ?_) (fun h => Ev.const (by rw [if_neg h]))
  refine Ev.step (fun k => by rw [cmp_Or_api_Errno.l0]) (Ev.ifp (by simp) (Ev.ifp (by omega) (Ev.ifp (by simp) ?_)))
  rw [r1, e2, if_pos h]
  refine Ev.ite (fun h2 => ?_) (fun h2 => Ev.const rfl)
  refine Ev.step (fun k => by rw [cmp_Or_api_Errno.l0]) (Ev.ifn (by simp) (Ev.const ?_))
  rw [h2]
theorem or_ck (a b : Bool) : Ev (fun k => cmp_Or_api_Errno.f k [ckS a, ckS b]) (ckS (a && b)) := Ev.val (or_f _ _) (by cases a <;> cases b <;> rfl)
-- Apply
def aplS (l : List It) (cs : List Ch) : List It × Int := if (okL l && okC cs) = true then (apl l cs, 0) else ([], 4)
theorem lo_take (l : List It) (k : List UInt8) : l.take (lo l k).length = lo l k := by
  have := congrArg (List.take (lo l k).length) (lo_up l k)
  rw [List.take_left] at this
  exact this.symm
theorem hi_drop {l : List It} (ha : Asc l) {k : List UInt8} (hf : fnd l k = true) : l.drop ((lo l k).length + 1) = hi l k := by
  obtain ⟨h, _, hp⟩ := at_fnd ha hf
  have := congrArg (List.drop ((lo l k).length + 1)) hp
  rw [List.drop_left' (by simp)] at this
  exact this
theorem hi_drop' {l : List It} (ha : Asc l) {k : List UInt8} (hf : fnd l k = false) : l.drop (lo l k).length = hi l k := by
  have := congrArg (List.drop (lo l k).length) (not_fnd ha hf)
  rw [List.drop_left] at this
  exact this
theorem put_set {l : List It} (ha : Asc l) {c : Ch} (hf : fnd l (ck c) = true) (hh : c.f1 = true) (h : (lo l (ck c)).length < l.length) : l.set (lo l (ck c)).length ⟨(l[(lo l (ck c)).length]).f0, c.f2⟩ = put l c := by
  obtain ⟨_, hk, hp⟩ := at_fnd ha hf
  rw [List.set_eq_take_append_cons_drop, if_pos h, lo_take, hi_drop ha hf]
  have e : (l[(lo l (ck c)).length]).f0 = c.f0 := bytes_inj hk
  rw [e]
  unfold put new_
  rw [if_pos hh, List.append_assoc]; rfl
theorem put_del {l : List It} (ha : Asc l) {c : Ch} (hf : fnd l (ck c) = true) (hh : c.f1 = false) : l.take (lo l (ck c)).length ++ l.drop ((lo l (ck c)).length + 1) = put l c := by
  rw [lo_take, hi_drop ha hf]
  unfold put new_
  rw [hh]; simp
theorem put_ins {l : List It} (ha : Asc l) {c : Ch} (hf : fnd l (ck c) = false) (hh : c.f1 = true) : l.take (lo l (ck c)).length ++ [⟨c.f0, c.f2⟩] ++ l.drop (lo l (ck c)).length = put l c := by
  rw [lo_take, hi_drop' ha hf]
  unfold put new_
  rw [if_pos hh]
theorem put_non {l : List It} (ha : Asc l) {c : Ch} (hf : fnd l (ck c) = false) (hh : c.f1 = false) : l = put l c := by
  unfold put new_
  rw [hh]
  simpa using not_fnd ha hf
theorem apl_l0 (cs : List Ch) (hcs : cs.length ≤ 4398046511000) : ∀ d i : Nat, cs.length = i + d → ∀ l : List It, okL l = true → okC (cs.drop i) = true → l.length + d ≤ 4398046511000 →
    Ev (fun k => item_Apply.l0 k l cs (cs.length : Int) (i : Int)) (apl l (cs.drop i), 0) := by
  intro d
  induction d with
  | zero =>
    intro i hi l ho hoc hb
    refine Ev.step (fun k => by rw [item_Apply.l0]) (Ev.ifn (by omega) (Ev.const ?_))
    rw [List.drop_of_length_le (by omega)]; rfl
  | succ d ih =>
    intro i hi l ho hoc hb
    have hlt : i < cs.length := by omega
    have ha := ((okL_iff l).1 ho).2
    obtain ⟨c, hc⟩ : ∃ c, c = cs[i] := ⟨_, rfl⟩
    rw [List.drop_eq_getElem_cons hlt, ← hc] at hoc ⊢
    unfold okC at hoc
    rw [List.all_cons, Bool.and_eq_true] at hoc
    have hpl := put_len l c
    have hpo := put_ok ho hoc.1
    have hlp := lo_le l (ck c)
    -- what is done here, then the rest
    have go : ∀ r : List It, r = put l c → Ev (fun k => item_Apply.l0 k r cs (cs.length : Int) (wrap64 ((i : Int) + 1))) (apl l (c :: cs.drop (i + 1)), 0) := by
      rintro r rfl
      rw [w64 (by omega) (by omega)]
      exact ih (i + 1) (by omega) (put l c) hpo hoc.2 (by omega)
    refine Ev.step (fun k => by rw [item_Apply.l0]) (Ev.ifp (by omega) (Ev.ifp (by omega) (Ev.ifp (by omega) ?_)))
    rw [rdc_get cs i hlt, ← hc]
    have hpf : Ev (fun k => item_place.f k l c.f0) (((lo l (ck c)).length : Int), fnd l (ck c)) := place_f ha (by omega) c.f0
    refine Ev.bind hpf ?_
    clear hpf
    have hw : wrap64 (((lo l (ck c)).length : Int) + 1) = ((lo l (ck c)).length : Int) + 1 := w64 (by omega) (by omega)
    cases hf : fnd l (ck c) with
    | true =>
      refine Ev.ifp rfl (Ev.step (fun k => by rw [item_Apply.j1]) ?_)
      obtain ⟨hp, _, _⟩ := at_fnd ha hf
      cases hh : c.f1 with
      | true =>
        refine Ev.ifp rfl (Ev.ifp (by simp only; omega) (Ev.ifp (by simp only; omega) (go _ ?_)))
        simp only
        rw [rd_get l _ hp, Int.toNat_natCast]
        exact put_set ha hf hh hp
      | false =>
        refine Ev.ifn (by simp) (Ev.ifp rfl (Ev.bindc ?_ (go _ (put_del ha hf hh))))
        simp only
        unfold slices_Delete_api_Item_api_Item.f
        rw [hw, if_pos ⟨by omega, by omega, rfl⟩, Int.toNat_natCast]
    | false =>
      refine Ev.ifn (by simp) (Ev.step (fun k => by rw [item_Apply.j1]) ?_)
      refine Ev.ifn (by simp) (Ev.ifn (by simp) ?_)
      cases hh : c.f1 with
      | true =>
        refine Ev.ifp rfl (Ev.bindc ?_ (go _ (put_ins ha hf hh)))
        simp only
        unfold slices_Insert_api_Item_api_Item.f
        rw [if_pos ⟨by omega, by omega, rfl, by omega⟩, Int.toNat_natCast]
      | false => exact Ev.ifn (by simp) (go _ (put_non ha hf hh))
theorem itApply (l : List It) (cs : List Ch) (hb : l.length + cs.length ≤ 4398046511000) : Ev (fun k => item_Apply.f k l cs) (aplS l cs) := by
  unfold item_Apply.f
  refine Ev.bind (itCheck l (by omega)) (Ev.bind (itCheckC cs (by omega)) (Ev.bind (or_ck _ _) ?_))
  unfold aplS
  by_cases h : (okL l && okC cs) = true
  · rw [h, if_pos rfl]
    rw [Bool.and_eq_true] at h
    refine Ev.ifp rfl (Ev.bindc (show slices_Clone_api_Item_api_Item.f l = some l by unfold slices_Clone_api_Item_api_Item.f; rw [if_pos (by omega)]) ?_)
    exact apl_l0 cs (by omega) cs.length 0 (by omega) l h.1 (by simpa using h.2) hb
  · have h' : (okL l && okC cs) = false := by simpa using h
    rw [h']
    exact Ev.ifn (by decide) (Ev.const rfl)
-- Diff
def diffS (a b : List It) : List Ch × Int := if (okL a && okL b) = true then (diffL a b, 0) else ([], 4)
theorem diff_l0 : ∀ m (a b : List It), a.length + b.length ≤ m → ∀ out : List Ch, out.length + m ≤ 3518437208883 → Ev (fun k => item_Diff.l0 k a b out) (out ++ diffL a b, 0) := by
  intro m
  induction m with
  | zero =>
    intro a b hm out hb
    obtain rfl : a = [] := List.eq_nil_of_length_eq_zero (by omega)
    obtain rfl : b = [] := List.eq_nil_of_length_eq_zero (by omega)
    refine Ev.step (fun k => by rw [item_Diff.l0]) (Ev.ifn (by rw [w64 (by simp) (by simp)]; simp) (Ev.const ?_))
    rw [diffL]; simp
  | succ m ih =>
    intro a b hm out hb
    -- the ways on
    have add : ∀ (a' : List It) (y : It) (b' : List It), a'.length + b'.length ≤ m → Ev (fun k => item_Diff.l0 k a' b' (out ++ [ad y])) (out ++ (ad y :: diffL a' b'), 0) := fun a' y b' h => by
      refine Ev.val (ih a' b' h (out ++ [ad y]) (by simp only [List.length_append, List.length_cons, List.length_nil, if_true, Bool.false_eq_true, if_false]; omega)) ?_
      rw [List.append_assoc]; rfl
    have del : ∀ (x : It) (a' b' : List It), a'.length + b'.length ≤ m → Ev (fun k => item_Diff.l0 k a' b' (out ++ [dl x])) (out ++ (dl x :: diffL a' b'), 0) := fun x a' b' h => by
      refine Ev.val (ih a' b' h (out ++ [dl x]) (by simp only [List.length_append, List.length_cons, List.length_nil, if_true, Bool.false_eq_true, if_false]; omega)) ?_
      rw [List.append_assoc]; rfl
    have r0 : ∀ (x : It) (l : List It), rd_T43 (x :: l) 0 = x := fun x l => rfl
    refine Ev.step (fun k => by rw [item_Diff.l0]) ?_
    have hw : wrap64 ((a.length : Int) + (b.length : Int)) = (a.length : Int) + (b.length : Int) := w64 (by omega) (by omega)
    rw [hw]
    cases b with
    | nil =>
      cases a with
      | nil => exact Ev.ifn (by simp) (Ev.const (by rw [diffL]; simp))
      | cons x a =>
        refine Ev.ifp (by simp only [List.length_append, List.length_cons, List.length_nil, if_true, Bool.false_eq_true, if_false]; omega) (Ev.ifp (by simp only [List.length_append, List.length_cons, List.length_nil, if_true, Bool.false_eq_true, if_false]; omega) (Ev.step (fun k => by rw [item_Diff.j1]) (Ev.ifp rfl (Ev.ifp (by simp only [List.length_append, List.length_cons, List.length_nil, if_true, Bool.false_eq_true, if_false]; omega) (Ev.ifp (by omega) (Ev.ifp (by simp only [List.length_append, List.length_cons, List.length_nil, if_true, Bool.false_eq_true, if_false]; omega) ?_))))))
        simp only [List.length_cons, List.length_nil] at hm
        refine Ev.val (del x a [] (by simp only [List.length_append, List.length_cons, List.length_nil, if_true, Bool.false_eq_true, if_false]; omega)) ?_
        rw [diffL, diffL]; rfl
    | cons y b =>
      cases a with
      | nil =>
        refine Ev.ifp (by simp only [List.length_append, List.length_cons, List.length_nil, if_true, Bool.false_eq_true, if_false]; omega) (Ev.ifn (by simp only [List.length_append, List.length_cons, List.length_nil, if_true, Bool.false_eq_true, if_false]; omega) (Ev.ifn (by simp) (Ev.step (fun k => by rw [item_Diff.j1]) (Ev.ifn (by simp) (Ev.ifn (by simp) (Ev.step (fun k => by rw [item_Diff.j2]) (Ev.ifn (by simp) (Ev.ifn (by simp) (Ev.ifp (by simp only [List.length_append, List.length_cons, List.length_nil, if_true, Bool.false_eq_true, if_false]; omega) (Ev.ifp (by omega) (Ev.ifp (by simp only [List.length_append, List.length_cons, List.length_nil, if_true, Bool.false_eq_true, if_false]; omega) ?_)))))))))))
        simp only [List.length_cons, List.length_nil] at hm
        refine Ev.val (add [] y b (by simp only [List.length_append, List.length_cons, List.length_nil, if_true, Bool.false_eq_true, if_false]; omega)) ?_
        rw [diffL]
      | cons x a =>
        simp only [List.length_cons] at hm
        refine Ev.ifp (by simp only [List.length_append, List.length_cons, List.length_nil, if_true, Bool.false_eq_true, if_false]; omega) (Ev.ifn (by simp only [List.length_append, List.length_cons, List.length_nil, if_true, Bool.false_eq_true, if_false]; omega) (Ev.ifp (by simp only [List.length_append, List.length_cons, List.length_nil, if_true, Bool.false_eq_true, if_false]; omega) (Ev.ifp (by simp only [List.length_append, List.length_cons, List.length_nil, if_true, Bool.false_eq_true, if_false]; omega) (Ev.ifp (by simp only [List.length_append, List.length_cons, List.length_nil, if_true, Bool.false_eq_true, if_false]; omega) (Ev.step (fun k => by rw [item_Diff.j1]) ?_)))))
        rw [r0, r0, diffL]
        refine Ev.ite (fun h => ?_) (fun h => ?_)
        · rw [if_pos h]
          exact Ev.ifp (by simp only [List.length_append, List.length_cons, List.length_nil, if_true, Bool.false_eq_true, if_false]; omega) (Ev.ifp (by omega) (Ev.ifp (by simp only [List.length_append, List.length_cons, List.length_nil, if_true, Bool.false_eq_true, if_false]; omega) (del x a (y :: b) (by simp only [List.length_append, List.length_cons, List.length_nil, if_true, Bool.false_eq_true, if_false]; omega))))
        · rw [if_neg h]
          refine Ev.ifp (by simp only [List.length_append, List.length_cons, List.length_nil, if_true, Bool.false_eq_true, if_false]; omega) (Ev.ifp (by simp only [List.length_append, List.length_cons, List.length_nil, if_true, Bool.false_eq_true, if_false]; omega) (Ev.ifp (by simp only [List.length_append, List.length_cons, List.length_nil, if_true, Bool.false_eq_true, if_false]; omega) (Ev.step (fun k => by rw [item_Diff.j2]) ?_)))
          by_cases hk : key x = key y
          · by_cases hv : x.f1.toList = y.f1.toList
            · rw [if_pos hk, if_pos hv]
              refine Ev.ifp (by simp [hk, hv]) (Ev.ifp (by simp only [List.length_append, List.length_cons, List.length_nil, if_true, Bool.false_eq_true, if_false]; omega) (Ev.ifp (by simp only [List.length_append, List.length_cons, List.length_nil, if_true, Bool.false_eq_true, if_false]; omega) ?_))
              exact ih a b (by omega) out (by omega)
            · rw [if_pos hk, if_neg hv]
              exact Ev.ifn (by simp [hv]) (Ev.ifp (by simp only [List.length_append, List.length_cons, List.length_nil, if_true, Bool.false_eq_true, if_false]; omega) (Ev.ifp (by simp only [List.length_append, List.length_cons, List.length_nil, if_true, Bool.false_eq_true, if_false]; omega) (Ev.ifp (by simp only [List.length_append, List.length_cons, List.length_nil, if_true, Bool.false_eq_true, if_false]; omega) (Ev.ifp hk (Ev.ifp (by simp only [List.length_append, List.length_cons, List.length_nil, if_true, Bool.false_eq_true, if_false]; omega) (Ev.ifp (by omega) (Ev.ifp (by simp only [List.length_append, List.length_cons, List.length_nil, if_true, Bool.false_eq_true, if_false]; omega) (add a y b (by omega)))))))))
          · rw [if_neg hk]
            exact Ev.ifn (by simp [hk]) (Ev.ifp (by simp only [List.length_append, List.length_cons, List.length_nil, if_true, Bool.false_eq_true, if_false]; omega) (Ev.ifp (by simp only [List.length_append, List.length_cons, List.length_nil, if_true, Bool.false_eq_true, if_false]; omega) (Ev.ifp (by simp only [List.length_append, List.length_cons, List.length_nil, if_true, Bool.false_eq_true, if_false]; omega) (Ev.ifn hk (Ev.ifp (by omega) (Ev.ifp (by simp only [List.length_append, List.length_cons, List.length_nil, if_true, Bool.false_eq_true, if_false]; omega) (add (x :: a) y b (by simp only [List.length_append, List.length_cons, List.length_nil, if_true, Bool.false_eq_true, if_false]; omega))))))))
theorem itDiff (a b : List It) (hb : a.length + b.length ≤ 3518437208883) : Ev (fun k => item_Diff.f k a b) (diffS a b) := by
  unfold item_Diff.f
  refine Ev.bind (itCheck a (by omega)) (Ev.bind (itCheck b (by omega)) (Ev.bind (or_ck _ _) ?_))
  unfold diffS
  by_cases h : (okL a && okL b) = true
  · rw [h, if_pos rfl]
    exact Ev.ifp rfl (Ev.val (diff_l0 _ a b (Nat.le_refl _) [] (by simpa using hb)) (by simp))
  · have h' : (okL a && okL b) = false := by simpa using h
    rw [h']
    exact Ev.ifn (by decide) (Ev.const rfl)
end Go.Proofs.Ytdahmaepfmcpbaa.Z
end

section
/- 'lives' of the statements on items is true; what the laws need of lists besides. -/
namespace Go.Proofs.Ytdahmaepfmcpbaa.Z
open Go.RowKit Go.Proofs.YtdahmaepfmcpbaaW.PrintWords Go.Proofs.YtdahmaepfmcpbaaW.PrintLast
set_option linter.unusedVariables false
set_option linter.unusedSimpArgs false
theorem lives_f : Ev (fun k => cambiumlaw04_lives.f k) true := by
  have t0 : (⟨#[]⟩ : ByteArray).toList = [] := by rw [ByteArray.toList_eq]
  have ta : (⟨#[97]⟩ : ByteArray).toList = [97] := by rw [ByteArray.toList_eq]
  have tb : (⟨#[98]⟩ : ByteArray).toList = [98] := by rw [ByteArray.toList_eq]
  have tc : (⟨#[99]⟩ : ByteArray).toList = [99] := by rw [ByteArray.toList_eq]
  have t2 : (⟨#[50]⟩ : ByteArray).toList = [50] := by rw [ByteArray.toList_eq]
  have t3 : (⟨#[51]⟩ : ByteArray).toList = [51] := by rw [ByteArray.toList_eq]
  have t4 : (⟨#[52]⟩ : ByteArray).toList = [52] := by rw [ByteArray.toList_eq]
  have sz : ∀ x : UInt8, (⟨#[x]⟩ : ByteArray).size = 1 := fun _ => rfl
  have s0 : (⟨#[]⟩ : ByteArray).size = 0 := rfl
  have lab : Op.bytesLess [97] [98] = true := by decide
  have lac : Op.bytesLess [97] [99] = true := by decide
  have lbc : Op.bytesLess [98] [99] = true := by decide
  have oA : okL [(⟨⟨#[97]⟩, ⟨#[49]⟩⟩ : It), ⟨⟨#[98]⟩, ⟨#[50]⟩⟩] = true := by simp [okL, okF, okI, okK, key, ta, tb, sz, lab]
  have oB : okL [(⟨⟨#[98]⟩, ⟨#[51]⟩⟩ : It), ⟨⟨#[99]⟩, ⟨#[52]⟩⟩] = true := by simp [okL, okF, okI, okK, key, tc, tb, sz, lbc]
  have hd : diffS [(⟨⟨#[97]⟩, ⟨#[49]⟩⟩ : It), ⟨⟨#[98]⟩, ⟨#[50]⟩⟩] [⟨⟨#[98]⟩, ⟨#[51]⟩⟩, ⟨⟨#[99]⟩, ⟨#[52]⟩⟩] = ([⟨⟨#[97]⟩, false, ⟨#[]⟩⟩, ⟨⟨#[98]⟩, true, ⟨#[51]⟩⟩, ⟨⟨#[99]⟩, true, ⟨#[52]⟩⟩], 0) := by
    unfold diffS
    rw [oA, oB, if_pos (show (true && true) = true from rfl)]
    simp [diffL, key, ta, tb, tc, t2, t3, lab, bl_irrefl, dl, ad]
  have ha : aplS [(⟨⟨#[97]⟩, ⟨#[49]⟩⟩ : It), ⟨⟨#[98]⟩, ⟨#[50]⟩⟩] [⟨⟨#[97]⟩, false, ⟨#[]⟩⟩, ⟨⟨#[98]⟩, true, ⟨#[51]⟩⟩, ⟨⟨#[99]⟩, true, ⟨#[52]⟩⟩] = ([⟨⟨#[98]⟩, ⟨#[51]⟩⟩, ⟨⟨#[99]⟩, ⟨#[52]⟩⟩], 0) := by
    have oC : okC [(⟨⟨#[97]⟩, false, ⟨#[]⟩⟩ : Ch), ⟨⟨#[98]⟩, true, ⟨#[51]⟩⟩, ⟨⟨#[99]⟩, true, ⟨#[52]⟩⟩] = true := by simp [okC, okc, okK, ta, tb, tc, t0, sz, s0]
    unfold aplS
    rw [oA, oC, if_pos (show (true && true) = true from rfl)]
    simp [apl, put, lo, up, hi, new_, key, ck, ta, tb, tc, lab, lac, lbc, bl_irrefl, bl_asymm lab, List.takeWhile, List.dropWhile]
  have hg : getS [(⟨⟨#[98]⟩, ⟨#[51]⟩⟩ : It), ⟨⟨#[99]⟩, ⟨#[52]⟩⟩] (⟨#[99]⟩ : ByteArray).toList = (⟨#[52]⟩, 0) := by
    unfold getS
    rw [oB, if_pos rfl]
    simp [look, key, tb, tc]
  have hu : underS [(⟨⟨#[97]⟩, ⟨#[49]⟩⟩ : It), ⟨⟨#[98]⟩, ⟨#[50]⟩⟩] (⟨#[98]⟩ : ByteArray).toList = ([⟨⟨#[98]⟩, ⟨#[50]⟩⟩], 0) := by
    unfold underS
    rw [oA, if_pos rfl]
    simp [hp, key, ta, tb, List.filter]
    rfl
  have hn : getS [(⟨⟨#[97]⟩, ⟨#[49]⟩⟩ : It), ⟨⟨#[98]⟩, ⟨#[50]⟩⟩] (⟨#[99]⟩ : ByteArray).toList = (⟨#[]⟩, 5) := by
    unfold getS
    rw [oA, if_pos rfl]
    simp [look, key, ta, tb, tc]
  unfold cambiumlaw04_lives.f
  refine Ev.bindc rfl (Ev.bindc rfl (Ev.bind (Ev.val (itDiff _ _ (by decide)) hd) (Ev.bind (Ev.val (itApply _ _ (by decide)) ha) (Ev.bind (Ev.val (itGet _ (by decide) _) hg) (Ev.bind (Ev.val (itUnder _ (by decide) _) hu) (Ev.bind (Ev.val (itGet _ (by decide) _) hn) ?_))))))
  refine Ev.ifp rfl (Ev.ifp (by decide) (Ev.ifn (by show ¬ (false = true); decide) (Ev.ifp (by decide) (Ev.ifp (show (⟨#[52]⟩ : ByteArray).toList = [52] from t4) (Ev.ifp rfl (Ev.bind (same_refl _ (by decide)) (Ev.ifp rfl (Ev.ifp rfl (Ev.ifp t4 (Ev.ifp rfl (Ev.ifp rfl (Ev.ifp rfl (Ev.const rfl)))))))))))))
theorem okC_parts (cs : List Ch) (n : Nat) : okC cs = (okC (cs.take n) && okC (cs.drop n)) := by
  unfold okC
  conv => lhs; rw [← List.take_append_drop n cs]
  rw [List.all_append]
theorem apl_parts (l : List It) (cs : List Ch) (n : Nat) : apl l cs = apl (apl l (cs.take n)) (cs.drop n) := by
  unfold apl
  rw [← List.foldl_append, List.take_append_drop]
theorem put_again {l : List It} (ha : Asc l) (c : Ch) : put (put l c) c = put l c := by
  have h1 : put l c = lo l (ck c) ++ new_ c ++ hi l (ck c) := rfl
  rw [h1]
  exact put_parts lo_mem new_key (hi_gt ha)
theorem look_mem {l : List It} (ha : Asc l) {x : It} (hx : x ∈ l) : look l (key x) = some x.f1 := by
  obtain ⟨i, h, rfl⟩ := List.getElem_of_mem hx
  exact look_at ha i h
theorem diff_new : ∀ {a b : List It}, Asc a → Asc b → ∀ c ∈ diffL a b, (look a (ck c)).map (·.toList) ≠ (if c.f1 = true then some c.f2.toList else none)
  | a, [], ha, hb, c, h => by
    rw [diffL] at h
    obtain ⟨x, hx, rfl⟩ := List.mem_map.1 h
    rw [show ck (dl x) = key x from rfl, look_mem ha hx]
    simp [dl]
  | [], y :: b, ha, hb, c, h => by
    rw [diffL] at h
    rcases List.mem_cons.1 h with rfl | h
    · simp [look, ad]
    · exact diff_new ha hb.cons.2 c h
  | x :: a, y :: b, ha, hb, c, h => by
    rw [diffL] at h
    have hx := ha.cons.1
    have hy := hb.cons.1
    have far : ∀ {a' b' : List It}, c ∈ diffL a' b' → (∀ z ∈ a', Op.bytesLess (key x) (key z) = true) → (∀ z ∈ b', Op.bytesLess (key x) (key z) = true) → key x ≠ ck c := by
      intro a' b' hc h1 h2
      rcases diffL_key hc with ⟨z, hz, e⟩ | ⟨z, hz, e⟩
      · rw [e]; exact bl_ne (h1 z hz)
      · rw [e]; exact bl_ne (h2 z hz)
    split at h
    next hlt =>
      rcases List.mem_cons.1 h with rfl | h
      · rw [show ck (dl x) = key x from rfl, look_cons, if_pos rfl]; simp [dl]
      · have := far h hx (fun z hz => by rcases List.mem_cons.1 hz with rfl | hz
                                         · exact hlt
                                         · exact bl_trans hlt (hy z hz))
        rw [look_cons, if_neg this]
        exact diff_new ha.cons.2 hb c h
    next hnlt =>
      split at h
      next hk =>
        have hyx : ∀ z ∈ b, Op.bytesLess (key x) (key z) = true := fun z hz => by rw [hk]; exact hy z hz
        split at h
        next hv =>
          rw [look_cons, if_neg (far h hx hyx)]
          exact diff_new ha.cons.2 hb.cons.2 c h
        next hv =>
          rcases List.mem_cons.1 h with rfl | h
          · rw [show ck (ad y) = key y from rfl, look_cons, if_pos hk]; simpa [ad] using hv
          · rw [look_cons, if_neg (far h hx hyx)]
            exact diff_new ha.cons.2 hb.cons.2 c h
      next hk =>
        have hgt : Op.bytesLess (key y) (key x) = true := by
          rcases bl_total (key x) (key y) with e | e | e
          · exact absurd e hk
          · exact absurd e hnlt
          · exact e
        rcases List.mem_cons.1 h with rfl | h
        · rw [show ck (ad y) = key y from rfl, look_none (fun z hz => by
            rcases List.mem_cons.1 hz with rfl | hz
            · exact (bl_ne hgt).symm
            · exact (bl_ne (bl_trans hgt (hx z hz))).symm)]; simp [ad]
        · exact diff_new ha hb.cons.2 c h
termination_by a b => a.length + b.length
theorem put_ne {a b : List It} (ha : Asc a) (hb : Asc b) {c : Ch} (hc : c ∈ diffL a b) : put a c ≠ a := by
  intro h
  have h1 := diff_new ha hb c hc
  have h2 := look_put ha c (ck c)
  rw [h, if_pos rfl] at h2
  rw [h2] at h1
  apply h1
  split <;> rfl
theorem diff_ok {a b : List It} (ha : okL a = true) (hb : okL b = true) : ∀ c ∈ diffL a b, okc c = true := by
  refine diffL_each (fun x hx => ?_) (fun y hy => ?_)
  · have := ((okL_iff a).1 ha).1 x hx
    unfold okI at this
    rw [Bool.and_eq_true] at this
    unfold okc dl
    have t0 : (⟨#[]⟩ : ByteArray).toList = [] := by rw [ByteArray.toList_eq]
    have s0 : (⟨#[]⟩ : ByteArray).size = 0 := rfl
    simp [this.1, t0, s0]
  · have := ((okL_iff b).1 hb).1 y hy
    unfold okI at this
    unfold okc ad
    simpa using this
theorem diff_okC {a b : List It} (ha : okL a = true) (hb : okL b = true) : okC (diffL a b) = true := List.all_eq_true.2 (diff_ok ha hb)
theorem diff_self : ∀ a : List It, diffL a a = []
  | [] => by rw [diffL]; rfl
  | x :: a => by rw [diffL, if_neg (by rw [bl_irrefl]; simp), if_pos rfl, if_pos rfl]; exact diff_self a
theorem diff_asc : ∀ {a b : List It}, Asc a → Asc b → (diffL a b).Pairwise (fun c d => Op.bytesLess (ck c) (ck d) = true)
  | a, [], ha, hb => by
    rw [diffL]
    unfold Asc at ha
    exact List.pairwise_map.2 ha
  | [], y :: b, ha, hb => by
    rw [diffL]
    refine List.pairwise_cons.2 ⟨fun c hc => ?_, diff_asc ha hb.cons.2⟩
    rcases diffL_key hc with ⟨z, hz, e⟩ | ⟨z, hz, e⟩
    · cases hz
    · rw [e]; exact hb.cons.1 z hz
  | x :: a, y :: b, ha, hb => by
    have hx := ha.cons.1
    have hy := hb.cons.1
    rw [diffL]
    split
    next hlt =>
      refine List.pairwise_cons.2 ⟨fun c hc => ?_, diff_asc ha.cons.2 hb⟩
      rcases diffL_key hc with ⟨z, hz, e⟩ | ⟨z, hz, e⟩
      · rw [e]; exact hx z hz
      · rw [e]
        rcases List.mem_cons.1 hz with rfl | hz
        · exact hlt
        · exact bl_trans hlt (hy z hz)
    next hnlt =>
      split
      next hk =>
        split
        · exact diff_asc ha.cons.2 hb.cons.2
        · refine List.pairwise_cons.2 ⟨fun c hc => ?_, diff_asc ha.cons.2 hb.cons.2⟩
          rcases diffL_key hc with ⟨z, hz, e⟩ | ⟨z, hz, e⟩
          · rw [e, show ck (ad y) = key y from rfl, ← hk]; exact hx z hz
          · rw [e]; exact hy z hz
      next hk =>
        have hgt : Op.bytesLess (key y) (key x) = true := by
          rcases bl_total (key x) (key y) with e | e | e
          · exact absurd e hk
          · exact absurd e hnlt
          · exact e
        refine List.pairwise_cons.2 ⟨fun c hc => ?_, diff_asc ha hb.cons.2⟩
        rcases diffL_key hc with ⟨z, hz, e⟩ | ⟨z, hz, e⟩
        · rw [e]
          rcases List.mem_cons.1 hz with rfl | hz
          · exact hgt
          · exact bl_trans hgt (hx z hz)
        · rw [e]; exact hy z hz
termination_by a b => a.length + b.length
theorem diff_back : ∀ {a b : List It} (pre : List It), Asc (pre ++ a) → Asc (pre ++ b) → apl (pre ++ a) (diffL a b) = pre ++ b
  | a, [], pre, ha, hb => by
    rw [diffL]
    induction a with
    | nil => rfl
    | cons x a ih =>
      have h1 : put (pre ++ x :: a) (dl x) = pre ++ a := by
        have hp : pre ++ x :: a = pre ++ [x] ++ a := by simp
        rw [hp, put_parts (c := dl x) (fun z hz => ha.parts.2.2 z hz x (List.mem_cons_self ..)) (fun z hz => by rw [List.mem_singleton.1 hz]; rfl) (ha.parts.2.1.cons.1)]
        simp [new_, dl]
      simp only [List.map_cons, apl, List.foldl_cons]
      rw [h1]
      exact ih (ha.parts.1.app ha.parts.2.1.cons.2 (fun z hz w hw => ha.parts.2.2 z hz w (List.mem_cons_of_mem _ hw)))
  | [], y :: b, pre, ha, hb => by
    rw [diffL]
    have h1 : put (pre ++ []) (ad y) = (pre ++ [y]) ++ [] := by
      have hp : pre ++ ([] : List It) = pre ++ [] ++ [] := by simp
      rw [hp, put_parts (c := ad y) (fun z hz => hb.parts.2.2 z hz y (List.mem_cons_self ..)) (by simp) (by simp)]
      simp [new_, ad]
    simp only [apl, List.foldl_cons]
    rw [h1]
    have h2 : pre ++ y :: b = (pre ++ [y]) ++ b := by simp
    rw [h2] at hb ⊢
    exact diff_back (pre ++ [y]) (by simpa using hb.parts.1) hb
  | x :: a, y :: b, pre, ha, hb => by
    rw [diffL]
    have hx := ha.parts.2.1.cons.1
    have hy := hb.parts.2.1.cons.1
    have h2 : pre ++ y :: b = (pre ++ [y]) ++ b := by simp
    have h3 : pre ++ x :: a = pre ++ [x] ++ a := by simp
    split
    next hlt =>
      have h1 : put (pre ++ x :: a) (dl x) = pre ++ a := by
        rw [h3, put_parts (c := dl x) (fun z hz => ha.parts.2.2 z hz x (List.mem_cons_self ..)) (fun z hz => by rw [List.mem_singleton.1 hz]; rfl) hx]
        simp [new_, dl]
      simp only [apl, List.foldl_cons]
      rw [h1]
      exact diff_back pre (ha.parts.1.app ha.parts.2.1.cons.2 (fun z hz w hw => ha.parts.2.2 z hz w (List.mem_cons_of_mem _ hw))) hb
    next hnlt =>
      split
      next hk =>
        split
        next hv =>
          obtain rfl : x = y := it_ext hk hv
          rw [h3, h2]
          exact diff_back (pre ++ [x]) (h3 ▸ ha) (h2 ▸ hb)
        next hv =>
          have hc : ck (ad y) = key x := hk.symm
          have h1 : put (pre ++ x :: a) (ad y) = pre ++ [y] ++ a := by
            rw [h3, put_parts (c := ad y) (fun z hz => by rw [hc]; exact ha.parts.2.2 z hz x (List.mem_cons_self ..)) (fun z hz => by rw [List.mem_singleton.1 hz, hc]) (fun z hz => by rw [hc]; exact hx z hz)]
            simp [new_, ad]
          simp only [apl, List.foldl_cons]
          rw [h1, h2]
          refine diff_back (pre ++ [y]) ?_ (h2 ▸ hb)
          have hb2 : Asc (pre ++ [y]) := (h2 ▸ hb : Asc ((pre ++ [y]) ++ b)).parts.1
          refine hb2.app ha.parts.2.1.cons.2 (fun z hz w hw => ?_)
          rcases List.mem_append.1 hz with hz | hz
          · exact ha.parts.2.2 z hz w (List.mem_cons_of_mem _ hw)
          · rw [List.mem_singleton.1 hz, ← hk]; exact hx w hw
      next hk =>
        have hgt : Op.bytesLess (key y) (key x) = true := by
          rcases bl_total (key x) (key y) with e | e | e
          · exact absurd e hk
          · exact absurd e hnlt
          · exact e
        have hxa : ∀ z ∈ x :: a, Op.bytesLess (key y) (key z) = true := fun z hz => by
          rcases List.mem_cons.1 hz with rfl | hz
          · exact hgt
          · exact bl_trans hgt (hx z hz)
        have h1 : put (pre ++ x :: a) (ad y) = pre ++ [y] ++ (x :: a) := by
          have hp : pre ++ x :: a = pre ++ [] ++ (x :: a) := by simp
          rw [hp, put_parts (c := ad y) (fun z hz => hb.parts.2.2 z hz y (List.mem_cons_self ..)) (by simp) hxa]
          simp [new_, ad]
        simp only [apl, List.foldl_cons]
        rw [h1, h2]
        refine diff_back (pre ++ [y]) ?_ (h2 ▸ hb)
        have hb2 : Asc (pre ++ [y]) := (h2 ▸ hb : Asc ((pre ++ [y]) ++ b)).parts.1
        refine hb2.app ha.parts.2.1 (fun z hz w hw => ?_)
        rcases List.mem_append.1 hz with hz | hz
        · exact ha.parts.2.2 z hz w hw
        · rw [List.mem_singleton.1 hz]; exact hxa w hw
termination_by a b => a.length + b.length
end Go.Proofs.Ytdahmaepfmcpbaa.Z
end

section
/- What a reading of an argument as data gives a contract: the values of a kind (Kd), well formed, and their bulk. -/
namespace Go.Proofs.Ytdahmaepfmcpbaa.Z
open Go.ChangeShapes Go.WideShapes Go.ChangeAt Go.RowKit Go.Deep Go.Proofs.YtdahmaepfmcpbaaW.PrintWords Go.Proofs.YtdahmaepfmcpbaaW.PrintLast
set_option linter.unusedVariables false
/-- Every reading of type t's cells is one of d, is G, and is of bulk B at least. -/
def Opens {α : Type} (P : Program) (t : TypeId) (d : Kd α) (G : α → Prop) (B : α → Nat) : Prop :=
  d.sz = P.cellsOf t ∧ ∀ {H : Type} {enc : TypeId × Value → H} {w : World} {base : Nat} {spare : Nat → Bool} {held : Bool} {fuel : Nat} {cs : List Value} {x : DataW H × List MemPlace},
    DataW.trod enc P w base spare held fuel t cs = some x → ∃ a, d.K w a cs ∧ G a ∧ B a ≤ Rows.uptoBulk x.1
theorem Opens.bool {P : Program} {t : TypeId} (ht : P.underlying t = some .bool) (hc : P.cellsOf t = 1) : Opens P t Kd.bool (fun _ => True) (fun _ => 1) := by
  refine ⟨hc.symm, fun h => ?_⟩
  obtain ⟨b, rfl, rfl⟩ := DataW.trod_bool ht h
  exact ⟨b, rfl, trivial, by simp [Rows.uptoBulk]⟩
theorem Opens.int {P : Program} {t : TypeId} {k : IntKind} (ht : P.underlying t = some (.int k)) (hc : P.cellsOf t = 1) : Opens P t (Kd.int k) (fun n => (Lit.int k n).wf = true) (fun _ => 1) := by
  refine ⟨hc.symm, fun h => ?_⟩
  obtain ⟨b, rfl, rfl, hw⟩ := DataW.trod_int ht h
  exact ⟨b, rfl, hw, by simp [Rows.uptoBulk]⟩
theorem Opens.string {P : Program} {t : TypeId} (ht : P.underlying t = some .string) (hc : P.cellsOf t = 1) : Opens P t Kd.string (fun s => s.size ≤ maxLen) (fun s => s.size + 1) := by
  refine ⟨hc.symm, fun h => ?_⟩
  obtain ⟨b, rfl, rfl, hw⟩ := DataW.trod_string ht h
  exact ⟨b, rfl, hw, by simp [Rows.uptoBulk]⟩
theorem bulk_len {H : Type} (l : List (DataW H)) {α : Type} {B : α → Nat} (xs : List α) (hl : xs.length = l.length) (h : ∀ (i : Nat) (a : α) (y : DataW H), xs[i]? = some a → l[i]? = some y → B a ≤ Rows.uptoBulk y) : (xs.map B).sum ≤ Rows.uptoBulkAll l := by
  induction l generalizing xs with
  | nil => have : xs = [] := List.eq_nil_of_length_eq_zero hl; subst this; simp [Rows.uptoBulkAll]
  | cons y l ih =>
    cases xs with
    | nil => simp at hl
    | cons a xs =>
      simp only [List.map_cons, List.sum_cons, Rows.uptoBulkAll]
      have h0 := h 0 a y rfl rfl
      have h1 := ih xs (by simpa using hl) (fun i a y ha hy => h (i + 1) a y (by simpa using ha) (by simpa using hy))
      omega
theorem list_of_each {α : Type} (p : Nat → α → Prop) : ∀ n : Nat, (∀ i, i < n → ∃ a, p i a) → ∃ l : List α, l.length = n ∧ ∀ i a, l[i]? = some a → p i a
  | 0, _ => ⟨[], rfl, fun i a h => by simp at h⟩
  | n + 1, h => by
    obtain ⟨l, hl, hp⟩ := list_of_each p n (fun i hi => h i (by omega))
    obtain ⟨a, ha⟩ := h n (by omega)
    refine ⟨l ++ [a], by simp [hl], fun i b hb => ?_⟩
    rcases Nat.lt_or_ge i l.length with hi | hi
    · rw [List.getElem?_append_left hi] at hb; exact hp i b hb
    · have hi2 : i = l.length := by
        have := (List.getElem?_eq_some_iff.1 hb).1
        simp at this; omega
      subst hi2
      have hb2 : a = b := by simpa using hb
      subst hb2
      rw [hl]; exact ha
/-- A slice, opened. -/
theorem Opens.row {α : Type} {P : Program} {t e : TypeId} {d : Kd α} {G : α → Prop} {B : α → Nat} (ht : P.underlying t = some (.slice e)) (hO : Opens P e d G B) (hpos : 0 < P.cellsOf e)
    {H : Type} {enc : TypeId × Value → H} {w : World} {base : Nat} {spare : Nat → Bool} {held : Bool} {fuel : Nat} {cs : List Value} {x : DataW H × List MemPlace} (h : DataW.trod enc P w base spare held fuel t cs = some x) :
    ∃ (A : Option Addr) (c : Nat) (l : List α), cs = [.slice A l.length c] ∧ l.length ≤ c ∧ c ≤ maxLen ∧ Kd.C d w A l.length l ∧ (∀ a ∈ l, G a) ∧ (l.map B).sum + 1 ≤ Rows.uptoBulk x.1 ∧ (x.1 = .nil ∧ l = [] ∨ ∃ el sp, x.1 = .slice el sp ∧ el.length = l.length) := by
  rcases DataW.trod_slice ht h with ⟨rfl, rfl⟩ | ⟨a, len, cap, elems, rest, n, _, rfl, rfl, hb, hl, hm, hlen, hel, _, _⟩
  · exact ⟨none, 0, [], rfl, Nat.le_refl _, Nat.zero_le _, Kd.C_nil _ _, by simp, by simp [Rows.uptoBulk], Or.inl ⟨rfl, rfl⟩⟩
  · have each : ∀ i, i < len → ∃ a' : α, ∃ cs' y, w.cells? base (a.add (i * P.cellsOf e)) (P.cellsOf e) = some cs' ∧ elems[i]? = some y ∧ d.K w a' cs' ∧ G a' ∧ B a' ≤ Rows.uptoBulk y.1 := by
      intro i hi
      have h1 := hel i hi
      obtain ⟨y, hy⟩ : ∃ y, elems[i]? = some y := ⟨elems[i]'(by omega), List.getElem?_eq_getElem (by omega)⟩
      rw [hy, Option.bind_eq_some_iff] at h1
      obtain ⟨cs', hcs, htr⟩ := h1
      obtain ⟨a', hK, hG, hB⟩ := hO.2 htr
      exact ⟨a', cs', y, hcs, hy, hK, hG, hB⟩
    obtain ⟨l, hll, hp⟩ := list_of_each _ len each
    subst hll
    refine ⟨some a, cap, l, rfl, hl, hm, ⟨rfl, by unfold maxLen at hm; omega, fun _ => ⟨a, rfl, fun j p hj => ?_⟩⟩, ?_, ?_, Or.inr ⟨_, _, rfl, by simpa using hlen⟩⟩
    · obtain ⟨cs', y, hcs, _, hK, _, _⟩ := hp j p hj
      obtain ⟨_, hln, hc⟩ := World.cells?_some hcs
      refine ⟨cs', by rw [hln, hO.1], hK, fun i u hu => ?_⟩
      have hi : i < P.cellsOf e := by rw [← hln]; exact (List.getElem?_eq_some_iff.1 hu).1
      have := hc i hi
      rw [hu] at this
      rw [hO.1, ← this]
      congr 1
      have hs : a.spot = none := by
        have h0 := hc 0 hpos
        rw [List.getElem?_eq_getElem (by omega)] at h0
        cases hsp : a.spot with
        | none => rfl
        | some s =>
          rcases Nat.eq_zero_or_pos (j * P.cellsOf e) with hz | hz
          · rw [hz] at h0
            have : w.cell? a = some _ := h0
            unfold World.cell? at this
            rw [hsp] at this
            split at this <;> simp at this
          · have hl0 : 0 < l.length := by have := (List.getElem?_eq_some_iff.1 hj).1; omega
            obtain ⟨p0, hp0⟩ : ∃ p0, l[0]? = some p0 := ⟨l[0], List.getElem?_eq_getElem hl0⟩
            obtain ⟨cs0, y0, hcs0, _, _, _, _⟩ := hp 0 p0 hp0
            obtain ⟨_, hln0, hc0⟩ := World.cells?_some hcs0
            have h00 := hc0 0 hpos
            rw [List.getElem?_eq_getElem (by omega), Nat.zero_mul] at h00
            have : w.cell? a = some _ := h00
            unfold World.cell? at this
            rw [hsp] at this
            split at this <;> simp at this
      obtain ⟨b, o, s⟩ := a
      simp only at hs
      subst hs
      rw [add_at, add_at, add_at, Nat.add_assoc]
    · intro b hb
      obtain ⟨i, hi⟩ := List.getElem?_of_mem hb
      exact (hp i b hi).choose_spec.choose_spec.2.2.2.1
    · simp only [Rows.uptoBulk]
      have := bulk_len (elems.map (·.1)) (B := B) l (by simp [hlen]) (fun i b y hb hy => by
        obtain ⟨cs', y', _, hy', _, _, hB⟩ := hp i b hb
        rw [List.getElem?_map, hy'] at hy
        simp at hy
        subst hy
        exact hB)
      omega
/-- A struct of fields of one cell: each field's cell and reading. -/
theorem flat_fields {P : Program} {t : TypeId} {fs : Array Field} (ht : P.underlying t = some (.struct fs)) (hone : oneCellFields P fs = true) (hC : P.cellsOf t = fs.size)
    {H : Type} {enc : TypeId × Value → H} {w : World} {base : Nat} {spare : Nat → Bool} {held : Bool} {fuel : Nat} {cs : List Value} {x : DataW H × List MemPlace} (h : DataW.trod enc P w base spare held fuel t cs = some x) :
    ∃ (ys : List (DataW H × List MemPlace)) (n : Nat), cs.length = fs.size ∧ ys.length = fs.size ∧ x.1 = .agg (ys.map (·.1)) ∧ ∀ (i : Nat) (f : Field) (c : Value), fs[i]? = some f → cs[i]? = some c → DataW.trod enc P w base spare held n f.type [c] = ys[i]? := by
  obtain ⟨xs, n, _, rfl, hl, hlen, hf⟩ := DataW.trod_struct ht h
  refine ⟨xs, n, hl.trans hC, hlen, rfl, fun i f c hfi hc => ?_⟩
  have h1 := hf i f hfi
  obtain ⟨o0, k0⟩ := hone_of hone i f hfi
  rw [o0, k0] at h1
  rw [← h1]
  congr 1
  have hi := (List.getElem?_eq_some_iff.1 hc).1
  rw [List.drop_eq_getElem_cons hi, List.take_succ_cons, List.take_zero]
  rw [List.getElem?_eq_getElem hi] at hc
  simp at hc
  rw [hc]
/-- A slice among the arguments: its length, by the form's reach. -/
theorem sized_row {H : Type} {P : Program} {ts : List TypeId} {ds : List (DataW H)} {j : Nat} {t e : TypeId} {d : DataW H} {α : Type} {l : List α}
    (hsz : (DataW.weightsEach P ts ds).all (· ≤ reachBytes) = true) (ht : ts[j]? = some t) (hd : ds[j]? = some d) (hu : P.underlying t = some (.slice e)) {b : Nat} (hb : P.bytesOf e = b)
    (hx : d = .nil ∧ l = [] ∨ ∃ el sp, d = .slice el sp ∧ el.length = l.length) : l.length * b ≤ 140737488351232 := by
  rcases hx with ⟨_, rfl⟩ | ⟨el, sp, rfl, hl⟩
  · simp
  · have := sized_slice hsz ht hd hu
    rw [hb, hl] at this
    exact Nat.le_trans (Nat.mul_le_mul_right _ (Nat.le_add_right _ _)) this
theorem string_len {s : ByteArray} : s.data.toList.length = s.size := by rw [Array.length_toList]; rfl
end Go.Proofs.Ytdahmaepfmcpbaa.Z
end

section
-- Printed by a program of this session (mp.py): what a reading gives of the kinds that are arguments.
namespace Go.Proofs.Ytdahmaepfmcpbaa.Z
open Go.ChangeShapes Go.WideShapes Go.ChangeAt Go.RowKit Go.Deep Go.Proofs.YtdahmaepfmcpbaaW.PrintWords
set_option linter.unusedVariables false
def G43 (x : S43) : Prop := x.f0.size ≤ maxLen ∧ x.f1.size ≤ maxLen
def B43 (x : S43) : Nat := (x.f0.size + 1) + (x.f1.size + 1) + 1
theorem opens43 : Opens Try.prog 43 k43 G43 B43 := by
  refine ⟨by kernel_rfl, fun {H enc w base spare held fuel cs x} h => ?_⟩
  obtain ⟨ys, n, hl, hy, hx, hf⟩ := flat_fields Try.underlying43 (by kernel_rfl) (by kernel_rfl) h
  match cs, hl with
  | [c0, c1], _ =>
    match ys, hy with
    | [y0, y1], _ =>
      obtain ⟨a0, k0, g0, b0⟩ := (Opens.string Try.underlying9 (by kernel_rfl)).2 (hf 0 _ c0 rfl rfl)
      obtain ⟨a1, k1, g1, b1⟩ := (Opens.string Try.underlying9 (by kernel_rfl)).2 (hf 1 _ c1 rfl rfl)
      refine ⟨⟨a0, a1⟩, ⟨[c0], [c1], rfl, k0, k1⟩, ⟨g0, g1⟩, ?_⟩
      rw [hx]
      simp only [Rows.uptoBulk, Rows.uptoBulkAll, List.map_cons, List.map_nil, B43]
      dsimp only at b0 b1
      omega
def G39 (x : S39) : Prop := x.f0.size ≤ maxLen ∧ True ∧ x.f2.size ≤ maxLen
def B39 (x : S39) : Nat := (x.f0.size + 1) + 1 + (x.f2.size + 1) + 1
theorem opens39 : Opens Try.prog 39 k39 G39 B39 := by
  refine ⟨by kernel_rfl, fun {H enc w base spare held fuel cs x} h => ?_⟩
  obtain ⟨ys, n, hl, hy, hx, hf⟩ := flat_fields Try.underlying39 (by kernel_rfl) (by kernel_rfl) h
  match cs, hl with
  | [c0, c1, c2], _ =>
    match ys, hy with
    | [y0, y1, y2], _ =>
      obtain ⟨a0, k0, g0, b0⟩ := (Opens.string Try.underlying9 (by kernel_rfl)).2 (hf 0 _ c0 rfl rfl)
      obtain ⟨a1, k1, g1, b1⟩ := (Opens.bool Try.underlying4 (by kernel_rfl)).2 (hf 1 _ c1 rfl rfl)
      obtain ⟨a2, k2, g2, b2⟩ := (Opens.string Try.underlying9 (by kernel_rfl)).2 (hf 2 _ c2 rfl rfl)
      refine ⟨⟨a0, a1, a2⟩, ⟨[c0], [c1, c2], rfl, k0, ⟨[c1], [c2], rfl, k1, k2⟩⟩, ⟨g0, g1, g2⟩, ?_⟩
      rw [hx]
      simp only [Rows.uptoBulk, Rows.uptoBulkAll, List.map_cons, List.map_nil, B39]
      dsimp only at b0 b1 b2
      omega
end Go.Proofs.Ytdahmaepfmcpbaa.Z
end

section
/- ItemUnder, over lists: the law's function answers true. -/
namespace Go.Proofs.Ytdahmaepfmcpbaa.Pure
open Go.RowKit Go.Proofs.Ytdahmaepfmcpbaa Go.Proofs.Ytdahmaepfmcpbaa.Z Go.Proofs.YtdahmaepfmcpbaaW.PrintWords
set_option linter.unusedVariables false
set_option linter.unusedSimpArgs false
theorem ItemUnder : ∀ (l0 : List (S43)) (a1 : ByteArray), l0.length ≤ maxLen → (∀ x ∈ l0, Z.G43 x) → l0.length * 32 ≤ 140737488351232 → a1.size ≤ 140737488351232 → ∃ k, Z.cambiumlaw04_ItemUnder.f k l0 a1 = some true := by
  intro l a _ _ hl _
  have hL : l.length ≤ 4398046511104 := by omega
  refine Ev.rounds (g := fun k => Z.cambiumlaw04_ItemUnder.f k l a) ?_
  unfold cambiumlaw04_ItemUnder.f
  refine Ev.bind lives_f (Ev.ifp rfl (Ev.bind (itUnder l hL a) (Ev.bind (itUnder l hL _) ?_)))
  unfold underS
  by_cases ho : okL l = true
  · have ha := ((okL_iff l).1 ho).2
    rw [if_pos ho, if_pos ho]
    refine Ev.ifp rfl ?_
    have hall : l.filter (hp (⟨#[]⟩ : ByteArray).toList) = l := by
      rw [ByteArray.toList_eq]
      exact List.filter_eq_self.2 (fun x _ => rfl)
    rw [hall]
    simp only
    obtain ⟨S, hS⟩ : ∃ S, S = l.filter (hp a.toList) := ⟨_, rfl⟩
    rw [← hS]
    have hSl : S.length ≤ l.length := by rw [hS]; exact List.length_filter_le _ _
    have loop : ∀ e i n : Nat, l.length = i + e → n ≤ S.length → S.drop n = (l.drop i).filter (hp a.toList) → Ev (fun k => Z.cambiumlaw04_ItemUnder.l0 k l a S l 0 (n : Int) l (l.length : Int) (i : Int)) true := by
      intro e
      induction e with
      | zero =>
        intro i n hi hn hd
        rw [List.drop_of_length_le (l := l) (by omega)] at hd
        have hz := congrArg List.length hd
        rw [List.length_drop] at hz
        simp only [List.filter_nil, List.length_nil] at hz
        exact Ev.step (fun k => by rw [cambiumlaw04_ItemUnder.l0]) (Ev.ifn (by omega) (Ev.ifp (by omega) (Ev.ifp rfl (Ev.bind (same_refl l (by omega)) (Ev.const rfl)))))
      | succ e ih =>
        intro i n hi hn hd
        have hlt : i < l.length := by omega
        have hw : wrap64 ((i : Int) + 1) = ((i + 1 : Nat) : Int) := by rw [w64 (by omega) (by omega)]; omega
        rw [List.drop_eq_getElem_cons hlt] at hd
        have hj : ∀ g : Bool, g = (!hp a.toList l[i]) → Ev (fun k => Z.cambiumlaw04_ItemUnder.j1 k l a S l 0 (n : Int) l (l.length : Int) (i : Int) g (l[i]).f0 (l[i]).f1) true := by
          intro g hg
          refine Ev.step (fun k => by rw [cambiumlaw04_ItemUnder.j1]) ?_
          rw [hw]
          cases hx : hp a.toList l[i] with
          | false =>
            rw [List.filter_cons_of_neg (by rw [hx]; simp)] at hd
            exact Ev.ifp (by rw [hg, hx]; rfl) (ih (i + 1) n (by omega) hn hd)
          | true =>
            rw [List.filter_cons_of_pos hx] at hd
            have hz := congrArg List.length hd
            rw [List.length_drop, List.length_cons] at hz
            have hnS : n < S.length := by omega
            rw [List.drop_eq_getElem_cons hnS] at hd
            have hd := List.cons.inj hd
            refine Ev.ifn (by rw [hg, hx]; simp) (Ev.bind (itGet l hL _) (Ev.ifn (by omega) (Ev.ifp (by omega) (Ev.ifp (by omega) ?_))))
            have hgs : getS l (l[i]).f0.toList = ((l[i]).f1, 0) := by
              unfold getS
              rw [if_pos ho, show Z.look l (l[i]).f0.toList = some (l[i]).f1 from look_at ha i hlt]
            rw [rd_get S n hnS, hd.1, hgs]
            refine Ev.ifn (by simp) (Ev.ifp rfl (Ev.ifp rfl ?_))
            rw [w64 (i := (n : Int) + 1) (by omega) (by omega)]
            exact ih (i + 1) (n + 1) (by omega) (by omega) hd.2
        refine Ev.step (fun k => by rw [cambiumlaw04_ItemUnder.l0]) (Ev.ifp (by omega) (Ev.ifp (by omega) (Ev.ifp (by omega) ?_)))
        rw [rd_get l i hlt]
        have hc := cut_pre (l[i]).f0 a
        refine Ev.ite (fun h => hj true ?_) (fun h => Ev.ifp (by omega) (Ev.ifp (by omega) (hj _ ?_)))
        · cases hx : hp a.toList l[i]
          · rfl
          · have := pre_size hx; omega
        · cases hx : hp a.toList l[i] with
          | true => rw [bne_eq_false_iff_eq.2 (hc.2 hx)]; rfl
          | false =>
            have : ((l[i]).f0.extract 0 ((a.size : Int) : Int).toNat).toList ≠ a.toList := fun h2 => by
              have := hc.1 h2
              unfold hp at hx
              rw [hx] at this; cases this
            rw [bne_iff_ne.2 this]; rfl
    exact loop l.length 0 0 (by omega) (by omega) (by rw [List.drop_zero, List.drop_zero]; exact hS)
  · rw [if_neg ho, if_neg ho]
    exact Ev.ifn (by decide) (Ev.ifp rfl (Ev.const rfl))
end Go.Proofs.Ytdahmaepfmcpbaa.Pure
end

section
/- cambium/cambiumlaw04.ItemUnder: at every input the law's function returns true, and each argument reads afterwards as before. Conditions: none beyond the row's own. Printed by a program of this session (mp.py) over the pure statement in YtdahmaepfmcpbaaPureItemUnder. -/
namespace Go.Proofs.Ytdahmaepfmcpbaa.itemUnder
open Go.ChangeShapes Go.WideShapes Go.ChangeAt Go.RowKit
open Go.ChangeMaps (open_string shut_string)
set_option linter.unusedVariables false
set_option linter.unusedSimpArgs false
theorem own : ownKnob Try.prog.godebug = none := by kernel_rfl
theorem laidOut : laidOutB Try.prog = true := by kernel_rfl
set_option maxHeartbeats 1000000 in
set_option maxRecDepth 100000 in
theorem lifted (os : Os) (started : os.Started) (H : Type) (enc : TypeId × Value → H) :
    ReturnsInHanded {} Try.checked os 8 .any (Rows.itemUnderSpec.pre6 enc Try.prog Try.f8 Rows.itemUnderRow.domain false) (Rows.itemUnderSpec.post enc Try.prog Try.f8 false true false false) := by
  refine returnsInHanded_of_change_sized (C := Try.checked) own started (by kernel_rfl) Try.func8
    (ChangeSpec.witness6 (enc := enc) (C := Try.checked) false ⟨#[], #[.slice none 0 0, .string ByteArray.empty], []⟩ 8 (by kernel_rfl) (by kernel_rfl) (by kernel_rfl) (by kernel_rfl)) ?_
  intro W base args ds gs before hval0 hW hcnd hwz_ _
  have hsz : (DataW.weightsEach Try.prog (Try.f8.params.toList ++ Rows.itemUnderSpec.plain.varTypes Try.prog) (ds ++ gs)).all (· ≤ reachBytes) = true := hwz_
  have hval : ∀ (j : Nat) t v, Try.f8.params[j]? = some t → args[j]? = some v → Value.okWide Try.prog W .any base t v := hval0
  have hW' := hW
  obtain ⟨p, q, hA0, hV, rfl, hfz, hnd⟩ := hW
  have hA : DataW.TrodAll enc Try.prog W 0 (fun _ => true) true Try.f8.params.toList args.toList ds p := hA0
  rw [Try.params8] at hA hval hsz
  obtain ⟨v0, vs0, d0, ds0, p0, q0, hargs, rfl, rfl, h0, r0⟩ := trodAll_cons hA
  obtain ⟨v1, vs1, d1, ds1, p1, q1, rfl, rfl, rfl, h1, r1⟩ := trodAll_cons r0
  obtain ⟨rfl, rfl, rfl⟩ := trodAll_nil r1
  obtain rfl : args = #[v0, v1] := by cases args; simp_all
  obtain ⟨rfl, rfl⟩ := trodVars_none hV
  have k0 := h0
  have lt0 : ∀ x ∈ p0, x.block < W.heap.size := by obtain ⟨m, hm⟩ := k0; exact DataW.trod_lt m _ _ _ hm
  obtain ⟨a0, len0, cap0, rfl⟩ := okWide_slice Try.underlying22 (hval 0 22 v0 rfl rfl)
  obtain ⟨fuel0, hf0⟩ := h0
  obtain ⟨A0, c0, l0, hcs0, hlc0, hcm0, hC0, hG0, hB0, hx0⟩ := Z.Opens.row Try.underlying22 Z.opens43 (of_decide_eq_true (by kernel_rfl)) hf0
  simp only [Value.cells, List.cons.injEq, Value.slice.injEq, and_true] at hcs0
  obtain ⟨rfl, rfl, rfl⟩ := hcs0
  have hlm0 : l0.length ≤ maxLen := Nat.le_trans hlc0 hcm0
  have hsz0 : l0.length * 32 ≤ 140737488351232 := Z.sized_row hsz (j := 0) (t := 22) rfl rfl Try.underlying22 (by kernel_rfl) hx0
  have k1 := h1
  have lt1 : ∀ x ∈ p1, x.block < W.heap.size := by obtain ⟨m, hm⟩ := k1; exact DataW.trod_lt m _ _ _ hm
  obtain ⟨a1, rfl, rfl, rfl, y1⟩ := open_string Try.underlying9 (hval 1 9 v1 rfl rfl) h1
  have w1 : a1.size ≤ 140737488351232 := by
    have z := sized_string hsz (j := 1) (t := 9) rfl rfl
    rw [Array.length_toList] at z
    exact z
  have hP := Pure.ItemUnder l0 a1 hlm0 hG0 hsz0 w1
  obtain ⟨k, hk⟩ := hP
  refine (Z.cambiumlaw04_ItemUnder.calls k _ _ l0 a1 true W hC0 hlc0 hk).mono fun e W' ⟨he, bel0⟩ => ?_
  have bel : Below W.heap.size W W' := bel0
  subst he
  exact ⟨_, rfl, _, _, _, [], _, [], hW', trodAll_mk1 (shut_bool Try.underlying4 _), (trodAll_cons_mk (Below.trod laidOut (by kernel_rfl) (of_decide_eq_true (by kernel_rfl)) k0 bel lt0) (trodAll_cons_mk (Below.trod laidOut (by kernel_rfl) (of_decide_eq_true (by kernel_rfl)) k1 bel lt1) trodAll_mk0)), rfl, bel.frame _, fun h => by cases h⟩
theorem over : Rows.itemUnderRow.holds Try.pinned (OpenSpec.ofChange Rows.itemUnderSpec) :=
  OpenClaim.holds_of_wide 8 Try.f8 rfl rfl rfl rfl rfl rfl rfl ⟨rfl, rfl, rfl, rfl, rfl⟩ rfl rfl rfl rfl rfl (by kernel_rfl) Try.func8 (by kernel_rfl)
    (of_decide_eq_true (by kernel_rfl)) (by unfold Func.isWrapper; first | (rw [if_pos (by decide +kernel)]; kernel_rfl) | (rw [if_neg (by decide +kernel)]; exact ⟨rfl, rfl⟩))
    (fun os started H enc _ => lifted os started H enc)
end Go.Proofs.Ytdahmaepfmcpbaa.itemUnder
namespace Go.Proofs.Ytdahmaepfmcpbaa
theorem itemUnder_holds : Rows.ItemUnderSaid := itemUnder.over
#print axioms itemUnder_holds
end Go.Proofs.Ytdahmaepfmcpbaa
end
