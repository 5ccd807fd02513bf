-- Printed by a program of this session (mp.py) out of the translation.
import Derived.Test.YtjemaajliodmhaaZ0
import Derived.Test.YtjemaajliodmhaaZf9
import Derived.Test.YtjemaajliodmhaaZf17
import Derived.Test.YtjemaajliodmhaaHLast
import Derived.Test.YtjemaajliodmhaaHPath
import Derived.Test.YtjemaajliodmhaaHUnder
namespace Go.Proofs.Ytjemaajliodmhaa.Z
open Go.RowKit Go.Proofs.YtjemaajliodmhaaW.PrintWords Go.Proofs.YtjemaajliodmhaaW.PrintLast Go.Proofs.YtjemaajliodmhaaW.PrintMore
attribute [local go_sem] max2_int min2_int max_two min_two max_three min_three max_four min_four   -- for this text's walks alone
set_option linter.unusedVariables false
set_option linter.unusedSimpArgs false

/-! ### cambiumlaw11_lives: function 13 -/
def cambiumlaw11_lives.f (k : Nat)  : Option (Bool) := (path_Split.f k (⟨#[47, 97, 47, 98]⟩ : ByteArray)).bind fun bt127 => ((path_Split.f k (⟨#[47, 97, 47]⟩ : ByteArray)).bind fun bt131 => ((path_Split.f k (⟨#[47]⟩ : ByteArray)).bind fun bt135 => ((path_Join.f k (([(⟨#[97]⟩ : ByteArray), (⟨#[98]⟩ : ByteArray)] : List ByteArray))).bind fun bt142 => ((path_Last.f k (⟨#[47, 97, 47, 98]⟩ : ByteArray)).bind fun bt144 => ((path_Name.f (⟨#[97]⟩ : ByteArray)).bind fun t149 => (if t149 = true then ((path_Name.f (⟨#[46, 46]⟩ : ByteArray)).bind fun t150 => (if t150 = true then (some false) else (if (bt127.1.length : Int) = 2 then (if 1 < (bt127.1.length : Int) then (if (rdOf ByteArray.empty bt127.1 1).toList = ([98] : List UInt8) then (if bt127.2 = 0 then (if bt131.2 = 10 then (if (bt135.1.length : Int) = 0 then (if bt135.2 = 0 then (if bt142.1.toList = ([47, 97, 47, 98] : List UInt8) then (if bt142.2 = 0 then (if (bt144.1.length : Int) = 1 then (if bt144.2.1.toList = ([98] : List UInt8) then (if bt144.2.2 = 0 then ((path_Under.f k bt144.1 bt127.1).bind fun t152 => (some t152)) else (some false)) else (some false)) else (some false)) else (some false)) else (some false)) else (some false)) else (some false)) else (some false)) else (some false)) else (some false)) else (none)) else (some false)))) else (some false)))))))
theorem cambiumlaw11_lives.mono : ∀ k, LeO (cambiumlaw11_lives.f k ) (cambiumlaw11_lives.f (k + 1) ) := by
  intro  k
  unfold cambiumlaw11_lives.f
  repeat' first
      | (with_reducible exact path_Join.mono _ _)
      | (with_reducible exact path_Last.mono _ _)
      | (with_reducible exact path_Split.mono _ _)
      | (with_reducible exact path_Under.mono _ _ _)
      | (with_reducible exact LeO.refl _)
      | (with_reducible exact LeO.none _)
      | (with_reducible refine LeO.ite ?_ ?_)
      | (with_reducible refine LeO.bind ?_ (fun _ => ?_))
      | exact path_Join.mono _ _
      | exact path_Last.mono _ _
      | exact path_Split.mono _ _
      | exact path_Under.mono _ _ _
      | exact LeO.none _
      | refine LeO.ite ?_ ?_
      | refine LeO.bind ?_ (fun _ => ?_)
set_option maxHeartbeats 8000000 in
set_option maxRecDepth 100000 in
theorem cambiumlaw11_lives.calls (k : Nat)  (r : Bool) (w : World) (h : cambiumlaw11_lives.f k  = some r) (hT_ : r = true := by rfl) :
    Calls Try.prog 13 #[] w fun e w' => e = .returned (.bool r) ∧ Below w.heap.size w w' := by
  have HT_ := Aside0.mk hT_
  clear hT_
  have HB := Aside0.mk (Below.refl w.heap.size w)
  have H : ((path_Split.f k (⟨#[47, 97, 47, 98]⟩ : ByteArray)).bind fun bt127 => ((path_Split.f k (⟨#[47, 97, 47]⟩ : ByteArray)).bind fun bt131 => ((path_Split.f k (⟨#[47]⟩ : ByteArray)).bind fun bt135 => ((path_Join.f k (([(⟨#[97]⟩ : ByteArray), (⟨#[98]⟩ : ByteArray)] : List ByteArray))).bind fun bt142 => ((path_Last.f k (⟨#[47, 97, 47, 98]⟩ : ByteArray)).bind fun bt144 => ((path_Name.f (⟨#[97]⟩ : ByteArray)).bind fun t149 => (if t149 = true then ((path_Name.f (⟨#[46, 46]⟩ : ByteArray)).bind fun t150 => (if t150 = true then (some false) else (if (bt127.1.length : Int) = 2 then (if 1 < (bt127.1.length : Int) then (if (rdOf ByteArray.empty bt127.1 1).toList = ([98] : List UInt8) then (if bt127.2 = 0 then (if bt131.2 = 10 then (if (bt135.1.length : Int) = 0 then (if bt135.2 = 0 then (if bt142.1.toList = ([47, 97, 47, 98] : List UInt8) then (if bt142.2 = 0 then (if (bt144.1.length : Int) = 1 then (if bt144.2.1.toList = ([98] : List UInt8) then (if bt144.2.2 = 0 then ((path_Under.f k bt144.1 bt127.1).bind fun t152 => (some t152)) else (some false)) else (some false)) else (some false)) else (some false)) else (some false)) else (some false)) else (some false)) else (some false)) else (some false)) else (some false)) else (none)) else (some false)))) else (some false)))))))) = some r := h
  clear h
  replace H := Option.bind_eq_some_iff.mp H
  obtain ⟨⟨t127, t128⟩, A10, H⟩ := H
  replace H : ((path_Split.f k (⟨#[47, 97, 47]⟩ : ByteArray)).bind fun bt131 => ((path_Split.f k (⟨#[47]⟩ : ByteArray)).bind fun bt135 => ((path_Join.f k (([(⟨#[97]⟩ : ByteArray), (⟨#[98]⟩ : ByteArray)] : List ByteArray))).bind fun bt142 => ((path_Last.f k (⟨#[47, 97, 47, 98]⟩ : ByteArray)).bind fun bt144 => ((path_Name.f (⟨#[97]⟩ : ByteArray)).bind fun t149 => (if t149 = true then ((path_Name.f (⟨#[46, 46]⟩ : ByteArray)).bind fun t150 => (if t150 = true then (some false) else (if (t127.length : Int) = 2 then (if 1 < (t127.length : Int) then (if (rdOf ByteArray.empty t127 1).toList = ([98] : List UInt8) then (if t128 = 0 then (if bt131.2 = 10 then (if (bt135.1.length : Int) = 0 then (if bt135.2 = 0 then (if bt142.1.toList = ([47, 97, 47, 98] : List UInt8) then (if bt142.2 = 0 then (if (bt144.1.length : Int) = 1 then (if bt144.2.1.toList = ([98] : List UInt8) then (if bt144.2.2 = 0 then ((path_Under.f k bt144.1 t127).bind fun t152 => (some t152)) else (some false)) else (some false)) else (some false)) else (some false)) else (some false)) else (some false)) else (some false)) else (some false)) else (some false)) else (some false)) else (none)) else (some false)))) else (some false))))))) = some r := H
  have A1 := Aside0.mk A10
  clear A10
  replace H := Option.bind_eq_some_iff.mp H
  obtain ⟨⟨t131, t132⟩, A20, H⟩ := H
  replace H : ((path_Split.f k (⟨#[47]⟩ : ByteArray)).bind fun bt135 => ((path_Join.f k (([(⟨#[97]⟩ : ByteArray), (⟨#[98]⟩ : ByteArray)] : List ByteArray))).bind fun bt142 => ((path_Last.f k (⟨#[47, 97, 47, 98]⟩ : ByteArray)).bind fun bt144 => ((path_Name.f (⟨#[97]⟩ : ByteArray)).bind fun t149 => (if t149 = true then ((path_Name.f (⟨#[46, 46]⟩ : ByteArray)).bind fun t150 => (if t150 = true then (some false) else (if (t127.length : Int) = 2 then (if 1 < (t127.length : Int) then (if (rdOf ByteArray.empty t127 1).toList = ([98] : List UInt8) then (if t128 = 0 then (if t132 = 10 then (if (bt135.1.length : Int) = 0 then (if bt135.2 = 0 then (if bt142.1.toList = ([47, 97, 47, 98] : List UInt8) then (if bt142.2 = 0 then (if (bt144.1.length : Int) = 1 then (if bt144.2.1.toList = ([98] : List UInt8) then (if bt144.2.2 = 0 then ((path_Under.f k bt144.1 t127).bind fun t152 => (some t152)) else (some false)) else (some false)) else (some false)) else (some false)) else (some false)) else (some false)) else (some false)) else (some false)) else (some false)) else (some false)) else (none)) else (some false)))) else (some false)))))) = some r := H
  have A2 := Aside0.mk A20
  clear A20
  replace H := Option.bind_eq_some_iff.mp H
  obtain ⟨⟨t135, t136⟩, A30, H⟩ := H
  replace H : ((path_Join.f k (([(⟨#[97]⟩ : ByteArray), (⟨#[98]⟩ : ByteArray)] : List ByteArray))).bind fun bt142 => ((path_Last.f k (⟨#[47, 97, 47, 98]⟩ : ByteArray)).bind fun bt144 => ((path_Name.f (⟨#[97]⟩ : ByteArray)).bind fun t149 => (if t149 = true then ((path_Name.f (⟨#[46, 46]⟩ : ByteArray)).bind fun t150 => (if t150 = true then (some false) else (if (t127.length : Int) = 2 then (if 1 < (t127.length : Int) then (if (rdOf ByteArray.empty t127 1).toList = ([98] : List UInt8) then (if t128 = 0 then (if t132 = 10 then (if (t135.length : Int) = 0 then (if t136 = 0 then (if bt142.1.toList = ([47, 97, 47, 98] : List UInt8) then (if bt142.2 = 0 then (if (bt144.1.length : Int) = 1 then (if bt144.2.1.toList = ([98] : List UInt8) then (if bt144.2.2 = 0 then ((path_Under.f k bt144.1 t127).bind fun t152 => (some t152)) else (some false)) else (some false)) else (some false)) else (some false)) else (some false)) else (some false)) else (some false)) else (some false)) else (some false)) else (some false)) else (none)) else (some false)))) else (some false))))) = some r := H
  have A3 := Aside0.mk A30
  clear A30
  obtain ⟨y139, hy139⟩ : ∃ y_ : List ByteArray, y_ = (([(⟨#[97]⟩ : ByteArray), (⟨#[98]⟩ : ByteArray)] : List ByteArray)) := ⟨_, rfl⟩
  replace H : ((path_Join.f k y139).bind fun bt142 => ((path_Last.f k (⟨#[47, 97, 47, 98]⟩ : ByteArray)).bind fun bt144 => ((path_Name.f (⟨#[97]⟩ : ByteArray)).bind fun t149 => (if t149 = true then ((path_Name.f (⟨#[46, 46]⟩ : ByteArray)).bind fun t150 => (if t150 = true then (some false) else (if (t127.length : Int) = 2 then (if 1 < (t127.length : Int) then (if (rdOf ByteArray.empty t127 1).toList = ([98] : List UInt8) then (if t128 = 0 then (if t132 = 10 then (if (t135.length : Int) = 0 then (if t136 = 0 then (if bt142.1.toList = ([47, 97, 47, 98] : List UInt8) then (if bt142.2 = 0 then (if (bt144.1.length : Int) = 1 then (if bt144.2.1.toList = ([98] : List UInt8) then (if bt144.2.2 = 0 then ((path_Under.f k bt144.1 t127).bind fun t152 => (some t152)) else (some false)) else (some false)) else (some false)) else (some false)) else (some false)) else (some false)) else (some false)) else (some false)) else (some false)) else (some false)) else (none)) else (some false)))) else (some false))))) = some r := by first | (rw [hy139]; with_reducible exact H) | (have H2_ := (Option.bind_some _ _).symm.trans H; rw [hy139]; with_reducible exact H2_) | (have H2_ := (Option.bind_some _ _).symm.trans H; with_reducible exact H2_) | with_reducible exact H | (rw [hy139]; exact H) | exact H
  have Ny139 := Aside0.mk hy139
  clear hy139
  replace H := Option.bind_eq_some_iff.mp H
  obtain ⟨⟨t142, t143⟩, A40, H⟩ := H
  replace H : ((path_Last.f k (⟨#[47, 97, 47, 98]⟩ : ByteArray)).bind fun bt144 => ((path_Name.f (⟨#[97]⟩ : ByteArray)).bind fun t149 => (if t149 = true then ((path_Name.f (⟨#[46, 46]⟩ : ByteArray)).bind fun t150 => (if t150 = true then (some false) else (if (t127.length : Int) = 2 then (if 1 < (t127.length : Int) then (if (rdOf ByteArray.empty t127 1).toList = ([98] : List UInt8) then (if t128 = 0 then (if t132 = 10 then (if (t135.length : Int) = 0 then (if t136 = 0 then (if t142.toList = ([47, 97, 47, 98] : List UInt8) then (if t143 = 0 then (if (bt144.1.length : Int) = 1 then (if bt144.2.1.toList = ([98] : List UInt8) then (if bt144.2.2 = 0 then ((path_Under.f k bt144.1 t127).bind fun t152 => (some t152)) else (some false)) else (some false)) else (some false)) else (some false)) else (some false)) else (some false)) else (some false)) else (some false)) else (some false)) else (some false)) else (none)) else (some false)))) else (some false)))) = some r := H
  have A4 := Aside0.mk A40
  clear A40
  replace H := Option.bind_eq_some_iff.mp H
  obtain ⟨⟨t144, t147, t148⟩, A50, H⟩ := H
  replace H : ((path_Name.f (⟨#[97]⟩ : ByteArray)).bind fun t149 => (if t149 = true then ((path_Name.f (⟨#[46, 46]⟩ : ByteArray)).bind fun t150 => (if t150 = true then (some false) else (if (t127.length : Int) = 2 then (if 1 < (t127.length : Int) then (if (rdOf ByteArray.empty t127 1).toList = ([98] : List UInt8) then (if t128 = 0 then (if t132 = 10 then (if (t135.length : Int) = 0 then (if t136 = 0 then (if t142.toList = ([47, 97, 47, 98] : List UInt8) then (if t143 = 0 then (if (t144.length : Int) = 1 then (if t147.toList = ([98] : List UInt8) then (if t148 = 0 then ((path_Under.f k t144 t127).bind fun t152 => (some t152)) else (some false)) else (some false)) else (some false)) else (some false)) else (some false)) else (some false)) else (some false)) else (some false)) else (some false)) else (some false)) else (none)) else (some false)))) else (some false))) = some r := H
  have A5 := Aside0.mk A50
  clear A50
  replace H := Option.bind_eq_some_iff.mp H
  obtain ⟨t149, A60, H⟩ := H
  replace H : (if t149 = true then ((path_Name.f (⟨#[46, 46]⟩ : ByteArray)).bind fun t150 => (if t150 = true then (some false) else (if (t127.length : Int) = 2 then (if 1 < (t127.length : Int) then (if (rdOf ByteArray.empty t127 1).toList = ([98] : List UInt8) then (if t128 = 0 then (if t132 = 10 then (if (t135.length : Int) = 0 then (if t136 = 0 then (if t142.toList = ([47, 97, 47, 98] : List UInt8) then (if t143 = 0 then (if (t144.length : Int) = 1 then (if t147.toList = ([98] : List UInt8) then (if t148 = 0 then ((path_Under.f k t144 t127).bind fun t152 => (some t152)) else (some false)) else (some false)) else (some false)) else (some false)) else (some false)) else (some false)) else (some false)) else (some false)) else (some false)) else (some false)) else (none)) else (some false)))) else (some false)) = some r := H
  have A6 := Aside0.mk A60
  clear A60
  by_cases c7 : t149 = true
  · subst c7
    have H1 : ((path_Name.f (⟨#[46, 46]⟩ : ByteArray)).bind fun t150 => (if t150 = true then (some false) else (if (t127.length : Int) = 2 then (if 1 < (t127.length : Int) then (if (rdOf ByteArray.empty t127 1).toList = ([98] : List UInt8) then (if t128 = 0 then (if t132 = 10 then (if (t135.length : Int) = 0 then (if t136 = 0 then (if t142.toList = ([47, 97, 47, 98] : List UInt8) then (if t143 = 0 then (if (t144.length : Int) = 1 then (if t147.toList = ([98] : List UInt8) then (if t148 = 0 then ((path_Under.f k t144 t127).bind fun t152 => (some t152)) else (some false)) else (some false)) else (some false)) else (some false)) else (some false)) else (some false)) else (some false)) else (some false)) else (some false)) else (some false)) else (none)) else (some false)))) = some r := by rw [if_pos rfl] at H; exact H
    clear H
    have H := H1
    clear H1
    replace H := Option.bind_eq_some_iff.mp H
    obtain ⟨t150, A80, H⟩ := H
    replace H : (if t150 = true then (some false) else (if (t127.length : Int) = 2 then (if 1 < (t127.length : Int) then (if (rdOf ByteArray.empty t127 1).toList = ([98] : List UInt8) then (if t128 = 0 then (if t132 = 10 then (if (t135.length : Int) = 0 then (if t136 = 0 then (if t142.toList = ([47, 97, 47, 98] : List UInt8) then (if t143 = 0 then (if (t144.length : Int) = 1 then (if t147.toList = ([98] : List UInt8) then (if t148 = 0 then ((path_Under.f k t144 t127).bind fun t152 => (some t152)) else (some false)) else (some false)) else (some false)) else (some false)) else (some false)) else (some false)) else (some false)) else (some false)) else (some false)) else (some false)) else (none)) else (some false))) = some r := H
    have A8 := Aside0.mk A80
    clear A80
    by_cases c9 : t150 = true
    · subst c9
      have H1 : (some false) = some r := by rw [if_pos rfl] at H; exact H
      clear H
      have H := H1
      clear H1
      exact absurd ((Option.some.inj H).trans HT_.out) (by simp)
    · replace c9 := Bool.eq_false_iff.mpr c9
      subst c9
      have H1 : (if (t127.length : Int) = 2 then (if 1 < (t127.length : Int) then (if (rdOf ByteArray.empty t127 1).toList = ([98] : List UInt8) then (if t128 = 0 then (if t132 = 10 then (if (t135.length : Int) = 0 then (if t136 = 0 then (if t142.toList = ([47, 97, 47, 98] : List UInt8) then (if t143 = 0 then (if (t144.length : Int) = 1 then (if t147.toList = ([98] : List UInt8) then (if t148 = 0 then ((path_Under.f k t144 t127).bind fun t152 => (some t152)) else (some false)) else (some false)) else (some false)) else (some false)) else (some false)) else (some false)) else (some false)) else (some false)) else (some false)) else (some false)) else (none)) else (some false)) = some r := by rw [if_neg (show ¬ (false = true) by decide)] at H; exact H
      clear H
      have H := H1
      clear H1
      by_cases c10 : (t127.length : Int) = 2
      · rw [if_pos c10] at H
        have c10b0 : ((t127.length : Int) == 2) = true := beq_iff_eq.mpr c10
        have c10b1 : ((t127.length : Int) != 2) = false := bne_eq_false_iff_eq.mpr c10
        clear c10
        by_cases c11 : 1 < (t127.length : Int)
        · rw [if_pos c11] at H
          have c11b0 : decide (1 < (t127.length : Int)) = true := decide_eq_true c11
          have c11b1 : decide (1 < t127.length) = true := decide_eq_true (by omega)
          clear c11
          by_cases c12 : (rdOf ByteArray.empty t127 1).toList = ([98] : List UInt8)
          · rw [if_pos c12] at H
            have c12b0 : ((rdOf ByteArray.empty t127 1).toList == ([98] : List UInt8)) = true := beq_iff_eq.mpr c12
            have c12b1 : ((rdOf ByteArray.empty t127 1).toList != ([98] : List UInt8)) = false := bne_eq_false_iff_eq.mpr c12
            clear c12
            by_cases c13 : t128 = 0
            · rw [if_pos c13] at H
              have c13b0 : (t128 == 0) = true := beq_iff_eq.mpr c13
              have c13b1 : (t128 != 0) = false := bne_eq_false_iff_eq.mpr c13
              clear c13
              by_cases c14 : t132 = 10
              · rw [if_pos c14] at H
                have c14b0 : (t132 == 10) = true := beq_iff_eq.mpr c14
                have c14b1 : (t132 != 10) = false := bne_eq_false_iff_eq.mpr c14
                clear c14
                by_cases c15 : (t135.length : Int) = 0
                · rw [if_pos c15] at H
                  have c15b0 : ((t135.length : Int) == 0) = true := beq_iff_eq.mpr c15
                  have c15b1 : ((t135.length : Int) != 0) = false := bne_eq_false_iff_eq.mpr c15
                  clear c15
                  by_cases c16 : t136 = 0
                  · rw [if_pos c16] at H
                    have c16b0 : (t136 == 0) = true := beq_iff_eq.mpr c16
                    have c16b1 : (t136 != 0) = false := bne_eq_false_iff_eq.mpr c16
                    clear c16
                    by_cases c17 : t142.toList = ([47, 97, 47, 98] : List UInt8)
                    · rw [if_pos c17] at H
                      have c17b0 : (t142.toList == ([47, 97, 47, 98] : List UInt8)) = true := beq_iff_eq.mpr c17
                      have c17b1 : (t142.toList != ([47, 97, 47, 98] : List UInt8)) = false := bne_eq_false_iff_eq.mpr c17
                      clear c17
                      by_cases c18 : t143 = 0
                      · rw [if_pos c18] at H
                        have c18b0 : (t143 == 0) = true := beq_iff_eq.mpr c18
                        have c18b1 : (t143 != 0) = false := bne_eq_false_iff_eq.mpr c18
                        clear c18
                        by_cases c19 : (t144.length : Int) = 1
                        · rw [if_pos c19] at H
                          have c19b0 : ((t144.length : Int) == 1) = true := beq_iff_eq.mpr c19
                          have c19b1 : ((t144.length : Int) != 1) = false := bne_eq_false_iff_eq.mpr c19
                          clear c19
                          by_cases c20 : t147.toList = ([98] : List UInt8)
                          · rw [if_pos c20] at H
                            have c20b0 : (t147.toList == ([98] : List UInt8)) = true := beq_iff_eq.mpr c20
                            have c20b1 : (t147.toList != ([98] : List UInt8)) = false := bne_eq_false_iff_eq.mpr c20
                            clear c20
                            by_cases c21 : t148 = 0
                            · rw [if_pos c21] at H
                              have c21b0 : (t148 == 0) = true := beq_iff_eq.mpr c21
                              have c21b1 : (t148 != 0) = false := bne_eq_false_iff_eq.mpr c21
                              clear c21
                              replace H := Option.bind_eq_some_iff.mp H
                              obtain ⟨t152, A220, H⟩ := H
                              replace H : (some t152) = some r := H
                              have A22 := Aside0.mk A220
                              clear A220
                              obtain rfl := Option.some.inj H
                              go_enter Try.func13, Try.ntmps13
                              go_wp2_with (first | ((with_reducible refine gate_callee (f := 9) rfl ?_); refine goesL_ (some 13) rfl rfl Try.func9 (by kernel_rfl) rfl #[.string (⟨#[47, 97, 47, 98]⟩ : ByteArray)] rfl (by (try simp only [List.map_toArray, List.map_cons, List.map_nil]); first | done | rfl | (simp only [List.length_drop, List.length_take]; rfl)) ?_; (with_reducible refine (path_Split.calls k (⟨#[47, 97, 47, 98]⟩ : ByteArray) t127 t128 _ A1.out).mono ?_); rintro e w23 ⟨v129, rfl, ho0, hb⟩; refine ⟨_, rfl, ?_⟩; have n0_ := Aside0.mk (Kd.R_lower ho0 (below_size (by repeat (first | (with_reducible first | exact HB.out | apply below_alloc | apply pw_below_drewN | apply below_drew1) | exact HB.out)))); have n1_ := Aside0.mk (below_step (by repeat (first | (with_reducible first | exact HB.out | apply below_alloc | apply pw_below_drewN | apply below_drew1) | exact HB.out)) hb); clear HB; have HO130 := n0_; have HB := n1_; clear n0_ n1_; (try clear hb); (try clear hb2); (try clear hk); (try clear hi); (try clear ho0)) | ((with_reducible refine gate_callee (f := 9) rfl ?_); refine goesL_ (some 17) rfl rfl Try.func9 (by kernel_rfl) rfl #[.string (⟨#[47, 97, 47]⟩ : ByteArray)] rfl (by (try simp only [List.map_toArray, List.map_cons, List.map_nil]); first | done | rfl | (simp only [List.length_drop, List.length_take]; rfl)) ?_; (with_reducible refine (path_Split.calls k (⟨#[47, 97, 47]⟩ : ByteArray) t131 t132 _ A2.out).mono ?_); rintro e w24 ⟨v133, rfl, ho0, hb⟩; refine ⟨_, rfl, ?_⟩; have n0_ := Aside0.mk (Kd.R_elder' (by (with_reducible repeat (first | apply Kd.R_alloc | apply Kd.R_drewN | apply Kd.R_drew)); exact HO130.out) (Kd.R_base ho0) hb); have n1_ := Aside0.mk (Kd.R_lower (Kd.R_new' ho0 (Kd.R_lt (by (with_reducible repeat (first | apply Kd.R_alloc | apply Kd.R_drewN | apply Kd.R_drew)); exact HO130.out))) (below_size (by repeat (first | (with_reducible first | exact HB.out | apply below_alloc | apply pw_below_drewN | apply below_drew1) | exact HB.out)))); have n2_ := Aside0.mk (below_step (by repeat (first | (with_reducible first | exact HB.out | apply below_alloc | apply pw_below_drewN | apply below_drew1) | exact HB.out)) hb); clear HO130; clear HB; have HO130 := n0_; have HO134 := n1_; have HB := n2_; clear n0_ n1_ n2_; (try clear hb); (try clear hb2); (try clear hk); (try clear hi); (try clear ho0)) | ((with_reducible refine gate_callee (f := 9) rfl ?_); refine goesL_ (some 21) rfl rfl Try.func9 (by kernel_rfl) rfl #[.string (⟨#[47]⟩ : ByteArray)] rfl (by (try simp only [List.map_toArray, List.map_cons, List.map_nil]); first | done | rfl | (simp only [List.length_drop, List.length_take]; rfl)) ?_; (with_reducible refine (path_Split.calls k (⟨#[47]⟩ : ByteArray) t135 t136 _ A3.out).mono ?_); rintro e w25 ⟨v137, rfl, ho0, hb⟩; refine ⟨_, rfl, ?_⟩; have n0_ := Aside0.mk (Kd.R_elder' (by (with_reducible repeat (first | apply Kd.R_alloc | apply Kd.R_drewN | apply Kd.R_drew)); exact HO130.out) (Kd.R_base ho0) hb); have n1_ := Aside0.mk (Kd.R_elder' (by (with_reducible repeat (first | apply Kd.R_alloc | apply Kd.R_drewN | apply Kd.R_drew)); exact HO134.out) (Kd.R_base ho0) hb); have n2_ := Aside0.mk (Kd.R_lower (Kd.R_new' (Kd.R_new' ho0 (Kd.R_lt (by (with_reducible repeat (first | apply Kd.R_alloc | apply Kd.R_drewN | apply Kd.R_drew)); exact HO130.out))) (Kd.R_lt (by (with_reducible repeat (first | apply Kd.R_alloc | apply Kd.R_drewN | apply Kd.R_drew)); exact HO134.out))) (below_size (by repeat (first | (with_reducible first | exact HB.out | apply below_alloc | apply pw_below_drewN | apply below_drew1) | exact HB.out)))); have n3_ := Aside0.mk (below_step (by repeat (first | (with_reducible first | exact HB.out | apply below_alloc | apply pw_below_drewN | apply below_drew1) | exact HB.out)) hb); clear HO130; clear HO134; clear HB; have HO130 := n0_; have HO134 := n1_; have HO138 := n2_; have HB := n3_; clear n0_ n1_ n2_ n3_; (try clear hb); (try clear hb2); (try clear hk); (try clear hi); (try clear ho0)) | ((with_reducible refine gate_dst (N := 25) rfl ?_); (try (refine gate_guard (by rfl) ?_; dsimp only)); refine Kd.R_lit Kd.string _ 9 ?hg (N := 25) ?hd (xs := ([(⟨#[97]⟩ : ByteArray), (⟨#[98]⟩ : ByteArray)] : List ByteArray)) (inner := [.string (⟨#[97]⟩ : ByteArray), .string (⟨#[98]⟩ : ByteArray)]) (ok := fun _ => True) (okp := fun _ => True) ?hr ?hp (fun _ hk => hk) trivial (Below.refl _ _) (Nat.le_refl _) (by simp) ?_; (case hd => rfl); (case hg => rfl); (case hr => first | (go_simp; done) | (go_simp; rfl)); (case hp => exact (Reps.one (show Kd.M Kd.string _ _ _ (⟨#[97]⟩ : ByteArray) [.string (⟨#[97]⟩ : ByteArray)] from rfl) (Reps.one (show Kd.M Kd.string _ _ _ (⟨#[98]⟩ : ByteArray) [.string (⟨#[98]⟩ : ByteArray)] from rfl) (Reps.none _ _)))); intro v140 w26 ho27 hb hg_ hnew_; clear hg_ hnew_; (first | rw [← Ny139.out] at ho27 | (simp only [Int.reduceToNat] at ho27; rw [← Ny139.out] at ho27)); have n0_ := Aside0.mk (Kd.R_elder' (by (with_reducible repeat (first | apply Kd.R_alloc | apply Kd.R_drewN | apply Kd.R_drew)); exact HO130.out) (Kd.R_base ho27) hb); have n1_ := Aside0.mk (Kd.R_elder' (by (with_reducible repeat (first | apply Kd.R_alloc | apply Kd.R_drewN | apply Kd.R_drew)); exact HO134.out) (Kd.R_base ho27) hb); have n2_ := Aside0.mk (Kd.R_elder' (by (with_reducible repeat (first | apply Kd.R_alloc | apply Kd.R_drewN | apply Kd.R_drew)); exact HO138.out) (Kd.R_base ho27) hb); have n3_ := Aside0.mk (Kd.R_lower (Kd.R_new' (Kd.R_new' (Kd.R_new' ho27 (Kd.R_lt (by (with_reducible repeat (first | apply Kd.R_alloc | apply Kd.R_drewN | apply Kd.R_drew)); exact HO130.out))) (Kd.R_lt (by (with_reducible repeat (first | apply Kd.R_alloc | apply Kd.R_drewN | apply Kd.R_drew)); exact HO134.out))) (Kd.R_lt (by (with_reducible repeat (first | apply Kd.R_alloc | apply Kd.R_drewN | apply Kd.R_drew)); exact HO138.out))) (below_size (by repeat (first | (with_reducible first | exact HB.out | apply below_alloc | apply pw_below_drewN | apply below_drew1) | exact HB.out)))); have n4_ := Aside0.mk (below_step (by repeat (first | (with_reducible first | exact HB.out | apply below_alloc | apply pw_below_drewN | apply below_drew1) | exact HB.out)) hb); clear HO130; clear HO134; clear HO138; clear HB; have HO130 := n0_; have HO134 := n1_; have HO138 := n2_; have HO141 := n3_; have HB := n4_; clear n0_ n1_ n2_ n3_ n4_; clear hb ho27; obtain ⟨Ao28, co28, eo28⟩ := Kd.R_slice HO141.out; subst eo28) | ((with_reducible refine gate_callee (f := 17) rfl ?_); refine goesL_ (some 26) rfl rfl Try.func17 (by kernel_rfl) rfl #[.slice Ao28 y139.length co28] rfl (by (try simp only [List.map_toArray, List.map_cons, List.map_nil]); first | done | rfl | (simp only [List.length_drop, List.length_take]; rfl)) ?_; (with_reducible refine (path_Join.calls k _ _ y139 t142 t143 _ ?side1 ?side2 A4.out).mono ?_); (case side1 => repeat (first | exact (Kd.R_reads' HO141.out).2.2 | (with_reducible refine Kd.C_alloc ?_ _) | (with_reducible refine Kd.C_drewN ?_ _) | (with_reducible refine Kd.C_drew ?_))); (case side2 => exact (Kd.R_reads' HO141.out).2.1); rintro e w29 ⟨rfl, hb⟩; refine ⟨_, rfl, ?_⟩; have n0_ := Aside0.mk (Kd.R_below (by (with_reducible repeat (first | apply Kd.R_alloc | apply Kd.R_drewN | apply Kd.R_drew)); exact HO130.out) hb); have n1_ := Aside0.mk (Kd.R_below (by (with_reducible repeat (first | apply Kd.R_alloc | apply Kd.R_drewN | apply Kd.R_drew)); exact HO134.out) hb); have n2_ := Aside0.mk (Kd.R_below (by (with_reducible repeat (first | apply Kd.R_alloc | apply Kd.R_drewN | apply Kd.R_drew)); exact HO138.out) hb); have n3_ := Aside0.mk (Kd.R_below (by (with_reducible repeat (first | apply Kd.R_alloc | apply Kd.R_drewN | apply Kd.R_drew)); exact HO141.out) hb); have n4_ := Aside0.mk (below_step (by repeat (first | (with_reducible first | exact HB.out | apply below_alloc | apply pw_below_drewN | apply below_drew1) | exact HB.out)) hb); clear HO130; clear HO134; clear HO138; clear HO141; clear HB; have HO130 := n0_; have HO134 := n1_; have HO138 := n2_; have HO141 := n3_; have HB := n4_; clear n0_ n1_ n2_ n3_ n4_; (try clear hb); (try clear hb2); (try clear hk); (try clear hi)) | ((with_reducible refine gate_callee (f := 11) rfl ?_); refine goesL_ (some 30) rfl rfl Try.func11 (by kernel_rfl) rfl #[.string (⟨#[47, 97, 47, 98]⟩ : ByteArray)] rfl (by (try simp only [List.map_toArray, List.map_cons, List.map_nil]); first | done | rfl | (simp only [List.length_drop, List.length_take]; rfl)) ?_; (with_reducible refine (path_Last.calls k (⟨#[47, 97, 47, 98]⟩ : ByteArray) t144 t147 t148 _ A5.out).mono ?_); rintro e w30 ⟨v145, rfl, ho0, hb⟩; refine ⟨_, rfl, ?_⟩; have n0_ := Aside0.mk (Kd.R_below (by (with_reducible repeat (first | apply Kd.R_alloc | apply Kd.R_drewN | apply Kd.R_drew)); exact HO130.out) hb); have n1_ := Aside0.mk (Kd.R_below (by (with_reducible repeat (first | apply Kd.R_alloc | apply Kd.R_drewN | apply Kd.R_drew)); exact HO134.out) hb); have n2_ := Aside0.mk (Kd.R_below (by (with_reducible repeat (first | apply Kd.R_alloc | apply Kd.R_drewN | apply Kd.R_drew)); exact HO138.out) hb); have n3_ := Aside0.mk (Kd.R_below (by (with_reducible repeat (first | apply Kd.R_alloc | apply Kd.R_drewN | apply Kd.R_drew)); exact HO141.out) hb); have n4_ := Aside0.mk (Kd.V_lower (Kd.V_mono (ok' := fun k_ => some k_ ≠ (v129 : Value).ownBlock ∧ some k_ ≠ (v133 : Value).ownBlock ∧ some k_ ≠ (v137 : Value).ownBlock ∧ some k_ ≠ (.slice Ao28 y139.length co28 : Value).ownBlock) ho0 (fun k_ hk_ => ⟨(Kd.fresh' (Kd.R_lt (by (with_reducible repeat (first | apply Kd.R_alloc | apply Kd.R_drewN | apply Kd.R_drew)); exact HO130.out)) k_ hk_), (Kd.fresh' (Kd.R_lt (by (with_reducible repeat (first | apply Kd.R_alloc | apply Kd.R_drewN | apply Kd.R_drew)); exact HO134.out)) k_ hk_), (Kd.fresh' (Kd.R_lt (by (with_reducible repeat (first | apply Kd.R_alloc | apply Kd.R_drewN | apply Kd.R_drew)); exact HO138.out)) k_ hk_), (Kd.fresh' (Kd.R_lt (by (with_reducible repeat (first | apply Kd.R_alloc | apply Kd.R_drewN | apply Kd.R_drew)); exact HO141.out)) k_ hk_)⟩)) (below_size (by repeat (first | (with_reducible first | exact HB.out | apply below_alloc | apply pw_below_drewN | apply below_drew1) | exact HB.out)))); have n5_ := Aside0.mk (below_step (by repeat (first | (with_reducible first | exact HB.out | apply below_alloc | apply pw_below_drewN | apply below_drew1) | exact HB.out)) hb); clear HO130; clear HO134; clear HO138; clear HO141; clear HB; have HO130 := n0_; have HO134 := n1_; have HO138 := n2_; have HO141 := n3_; have HO146 := n4_; have HB := n5_; clear n0_ n1_ n2_ n3_ n4_ n5_; (try clear hb); (try clear hb2); (try clear hk); (try clear hi); (try clear ho0)) | ((with_reducible refine gate_callee (f := 15) rfl ?_); refine goesL_ (some 34) rfl rfl Try.func15 (by kernel_rfl) rfl #[.string (⟨#[97]⟩ : ByteArray)] rfl (by (try simp only [List.map_toArray, List.map_cons, List.map_nil]); first | done | rfl | (simp only [List.length_drop, List.length_take]; rfl)) ?_; (with_reducible refine (path_Name.calls (⟨#[97]⟩ : ByteArray) true _ A6.out).mono ?_); rintro e w' ⟨rfl, ⟨nd, rfl⟩⟩; refine ⟨_, rfl, ?_⟩) | (go_at_call 15; (with_reducible refine (path_Name.calls (⟨#[46, 46]⟩ : ByteArray) false _ A8.out).mono ?_); rintro e w' ⟨rfl, ⟨nd, rfl⟩⟩; obtain ⟨Ao31, co31, eo31⟩ := Kd.R_slice HO130.out; subst eo31; have p151 : 0 ≤ (1 : Int) := (by omega); have q151 : 1 < (t127.length : Int) := of_decide_eq_true (by first | (with_reducible assumption) | assumption); obtain ⟨ad151, e151, hx151_0⟩ := Kd.at_string (Kd.R_reads' HO130.out).2.2 1 p151 q151; cases e151; (try simp only [show (1 : Int).toNat = 1 from rfl, Nat.reduceMul, Nat.reduceEqDiff, Go.Addr.add, ↓reduceIte] at hx151_0); have qi151 : (1 < t127.length) = True := eq_true (by omega); (try rw [show ((1 : Int)).toNat = 1 from rfl] at hx151_0); replace p151 := eq_true p151; replace q151 := eq_true q151; obtain ⟨Ao32, co32, eo32⟩ := Kd.R_slice HO138.out; subst eo32; obtain ⟨Ao33, co33, eo33⟩ := Kd.V_slice HO146.out; subst eo33) | (go_at_call 19; (with_reducible refine (path_Under.calls k _ _ t144 _ _ t127 t152 _ ?side1 ?side2 ?side3 ?side4 A22.out).mono ?_); (case side1 => repeat (first | exact (Kd.V_reads' HO146.out).2.2 | (with_reducible refine Kd.C_alloc ?_ _) | (with_reducible refine Kd.C_drewN ?_ _) | (with_reducible refine Kd.C_drew ?_))); (case side2 => exact (Kd.V_reads' HO146.out).2.1); (case side3 => repeat (first | exact (Kd.R_reads' HO130.out).2.2 | (with_reducible refine Kd.C_alloc ?_ _) | (with_reducible refine Kd.C_drewN ?_ _) | (with_reducible refine Kd.C_drew ?_))); (case side4 => exact (Kd.R_reads' HO130.out).2.1); rintro e w' ⟨rfl, ⟨nd, rfl⟩⟩))
                              go_ret
                              exact ⟨by first | rfl | (simp [errW_none, errW_some] <;> rfl) | (simp [*, errW_none, errW_some] <;> rfl), by repeat (first | (with_reducible first | exact HB.out | apply below_alloc | apply pw_below_drewN | apply below_drew1) | exact HB.out)⟩
                            · rw [if_neg c21] at H
                              have c21b0 : (t148 == 0) = false := beq_eq_false_iff_ne.mpr c21
                              have c21b1 : (t148 != 0) = true := bne_iff_ne.mpr c21
                              exact absurd ((Option.some.inj H).trans HT_.out) (by simp)
                          · rw [if_neg c20] at H
                            have c20b0 : (t147.toList == ([98] : List UInt8)) = false := beq_eq_false_iff_ne.mpr c20
                            have c20b1 : (t147.toList != ([98] : List UInt8)) = true := bne_iff_ne.mpr c20
                            exact absurd ((Option.some.inj H).trans HT_.out) (by simp)
                        · rw [if_neg c19] at H
                          have c19b0 : ((t144.length : Int) == 1) = false := beq_eq_false_iff_ne.mpr c19
                          have c19b1 : ((t144.length : Int) != 1) = true := bne_iff_ne.mpr c19
                          exact absurd ((Option.some.inj H).trans HT_.out) (by simp)
                      · rw [if_neg c18] at H
                        have c18b0 : (t143 == 0) = false := beq_eq_false_iff_ne.mpr c18
                        have c18b1 : (t143 != 0) = true := bne_iff_ne.mpr c18
                        exact absurd ((Option.some.inj H).trans HT_.out) (by simp)
                    · rw [if_neg c17] at H
                      have c17b0 : (t142.toList == ([47, 97, 47, 98] : List UInt8)) = false := beq_eq_false_iff_ne.mpr c17
                      have c17b1 : (t142.toList != ([47, 97, 47, 98] : List UInt8)) = true := bne_iff_ne.mpr c17
                      exact absurd ((Option.some.inj H).trans HT_.out) (by simp)
                  · rw [if_neg c16] at H
                    have c16b0 : (t136 == 0) = false := beq_eq_false_iff_ne.mpr c16
                    have c16b1 : (t136 != 0) = true := bne_iff_ne.mpr c16
                    exact absurd ((Option.some.inj H).trans HT_.out) (by simp)
                · rw [if_neg c15] at H
                  have c15b0 : ((t135.length : Int) == 0) = false := beq_eq_false_iff_ne.mpr c15
                  have c15b1 : ((t135.length : Int) != 0) = true := bne_iff_ne.mpr c15
                  have c15b2 : ¬ (t135 = []) := fun h_ => c15 (by rw [h_]; rfl)
                  exact absurd ((Option.some.inj H).trans HT_.out) (by simp)
              · rw [if_neg c14] at H
                have c14b0 : (t132 == 10) = false := beq_eq_false_iff_ne.mpr c14
                have c14b1 : (t132 != 10) = true := bne_iff_ne.mpr c14
                exact absurd ((Option.some.inj H).trans HT_.out) (by simp)
            · rw [if_neg c13] at H
              have c13b0 : (t128 == 0) = false := beq_eq_false_iff_ne.mpr c13
              have c13b1 : (t128 != 0) = true := bne_iff_ne.mpr c13
              exact absurd ((Option.some.inj H).trans HT_.out) (by simp)
          · rw [if_neg c12] at H
            have c12b0 : ((rdOf ByteArray.empty t127 1).toList == ([98] : List UInt8)) = false := beq_eq_false_iff_ne.mpr c12
            have c12b1 : ((rdOf ByteArray.empty t127 1).toList != ([98] : List UInt8)) = true := bne_iff_ne.mpr c12
            exact absurd ((Option.some.inj H).trans HT_.out) (by simp)
        · rw [if_neg c11] at H
          exact absurd H (by simp)
      · rw [if_neg c10] at H
        have c10b0 : ((t127.length : Int) == 2) = false := beq_eq_false_iff_ne.mpr c10
        have c10b1 : ((t127.length : Int) != 2) = true := bne_iff_ne.mpr c10
        exact absurd ((Option.some.inj H).trans HT_.out) (by simp)
  · replace c7 := Bool.eq_false_iff.mpr c7
    subst c7
    have H1 : (some false) = some r := by rw [if_neg (show ¬ (false = true) by decide)] at H; exact H
    clear H
    have H := H1
    clear H1
    exact absurd ((Option.some.inj H).trans HT_.out) (by simp)

end Go.Proofs.Ytjemaajliodmhaa.Z
