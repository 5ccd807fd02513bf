/- This session's own texts, laid together (a part that several claims share). -/
import Derived.Test.YtocmpidbeagimaaMB1
import Derived.Test.YtocmpidbeagimaaMB3
import Derived.Test.YtocmpidbeagimaaMB2
import Derived.DataShut
import Derived.Test.YtocmpidbeagimaaRows
import Derived.Lib.SmallJoins
import Derived.Deep.Strs
import Derived.SizedLaws
import Derived.ChangeArms
section
-- Printed by a program of this session (mp.py) out of the translation.
namespace Go.Proofs.Ytocmpidbeagimaa.Z
open Go.RowKit Go.Proofs.YtocmpidbeagimaaW.PrintWords Go.Proofs.YtocmpidbeagimaaW.PrintLast Go.Proofs.YtocmpidbeagimaaW.PrintMore
attribute [local go_sem] max2_int min2_int max_two min_two max_three min_three max_four min_four   -- for this text's walks alone
set_option linter.unusedVariables false
set_option linter.unusedSimpArgs false

attribute [local go_sem high] eqA37
/-! ### cambiumlaw12_lives: function 12 -/
def cambiumlaw12_lives.f (k : Nat)  : Option (Bool) := (inode_Encode.f k 3 0 1 2 (⟨#[47, 97]⟩ : ByteArray)).bind fun bt211 => ((inode_Decode.f k bt211.1).bind fun bt213 => ((inode_Encode.f k 1 0 2 0 (⟨#[]⟩ : ByteArray)).bind fun bt220 => ((inode_Key.f k 2 1 (⟨#[97]⟩ : ByteArray) 0).bind fun bt222 => ((inode_Parse.f k (⟨#[99, 0, 0, 0, 2, 0, 0, 0, 3]⟩ : ByteArray)).bind fun bt224 => (if (bt211.1.size : Int) = 15 then (if bt211.2 = 0 then (if bt213.2.2.2.2.1.toList = ([47, 97] : List UInt8) then (if bt213.2.2.2.2.2 = 0 then (if bt220.2 = 4 then (if bt222.1.toList = ([100, 0, 0, 0, 1, 97] : List UInt8) then (if bt222.2 = 0 then (if (bt224.1 == 3 && (bt224.2.1 == 2 && (bt224.2.2.1.toList == ([] : List UInt8) && (bt224.2.2.2.1 == 3)))) = true then (if bt224.2.2.2.2 = 0 then ((inode_Prefix.f k 2 1).bind fun t230 => (if 5 ≤ (bt222.1.size : Int) then (some (t230.toList == (bt222.1.extract 0 5).toList)) else (none))) else (some false)) else (some false)) else (some false)) else (some false)) else (some false)) else (some false)) else (some false)) else (some false)) else (some false))))))
theorem cambiumlaw12_lives.mono : ∀ k, LeO (cambiumlaw12_lives.f k ) (cambiumlaw12_lives.f (k + 1) ) := by
  intro  k
  unfold cambiumlaw12_lives.f
  repeat' first
      | (with_reducible exact inode_Decode.mono _ _)
      | (with_reducible exact inode_Encode.mono _ _ _ _ _ _)
      | (with_reducible exact inode_Key.mono _ _ _ _ _)
      | (with_reducible exact inode_Parse.mono _ _)
      | (with_reducible exact inode_Prefix.mono _ _ _)
      | (with_reducible exact LeO.refl _)
      | (with_reducible exact LeO.none _)
      | (with_reducible refine LeO.ite ?_ ?_)
      | (with_reducible refine LeO.bind ?_ (fun _ => ?_))
      | exact inode_Decode.mono _ _
      | exact inode_Encode.mono _ _ _ _ _ _
      | exact inode_Key.mono _ _ _ _ _
      | exact inode_Parse.mono _ _
      | exact inode_Prefix.mono _ _ _
      | exact LeO.none _
      | refine LeO.ite ?_ ?_
      | refine LeO.bind ?_ (fun _ => ?_)
def cambiumlaw12_lives.T6 : Bool × List (List Nat × List Nat) := (true, [([], []), ([0], [0]), ([1], [1]), ([2], [2]), ([3], [3]), ([4, 3], [3, 4]), ([3, 5], [3, 5]), ([6, 3], [6]), ([7], [7]), ([8, 7], [7, 8]), ([9, 7], [7, 9]), ([7, 10], [7, 10]), ([11, 7], [11]), ([12], [12]), ([13, 12], [12, 13]), ([12, 14], [12, 14]), ([15, 12], [15]), ([16], [16]), ([17, 16], [16, 17]), ([16, 18], [16, 18]), ([19, 16], [19]), ([20], [20]), ([21, 20], [20, 21]), ([20, 22], [20, 22]), ([23, 20], [23]), ([24], [24]), ([25, 24], [24, 25]), ([24, 26], [24, 26]), ([27, 24], [27]), ([28], [28]), ([28], [28]), ([29, 30, 28], [28, 29, 30]), ([28, 31], [28, 31]), ([32, 28], [32]), ([33], [33]), ([34, 33], [33, 34]), ([33, 35], [33, 35]), ([36, 33], [36]), ([37, 37], [37]), ([37], [37]), ([39, 37], [37, 39]), ([38, 40, 37], [37, 38, 40]), ([37, 41], [37, 41]), ([42, 38, 0, 1, 2, 3, 4, 5, 6, 7, 8, 9, 10, 11, 12, 13, 14, 15, 16, 17, 18, 19, 20, 21, 22, 23, 24, 25, 26, 27, 28, 29, 30, 31, 32, 33, 34, 35, 36, 37, 38, 39, 40, 41, 42], [42])])
def cambiumlaw12_lives.B6 : List Nat := [0, 1, 3, 7, 15, 31, 63, 127, 255, 511, 1023, 2047, 4095, 8191, 16383, 32767, 65535, 131071, 262143, 524287, 1048575, 2097151, 4194303, 8388607, 16777215, 33554431, 67108863, 134217727, 268435455, 536870911, 536870911, 2147483647, 4294967295, 8589934591, 17179869183, 34359738367, 68719476735, 137438953471, 274877906943, 274877906943, 824633720831, 2199023255551, 4398046511103, 8796093022207]
theorem cambiumlaw12_lives.tab6 : rtab .any (opsOf Try.f12 6) = cambiumlaw12_lives.T6 := by kernel_rfl
theorem cambiumlaw12_lives.bits6 : waitsOk cambiumlaw12_lives.T6.2 cambiumlaw12_lives.B6 = true := by kernel_rfl
set_option maxHeartbeats 8000000 in
set_option maxRecDepth 100000 in
theorem cambiumlaw12_lives.calls (k : Nat)  (r : Bool) (w : World) (h : cambiumlaw12_lives.f k  = some r) (hT_ : r = true := by rfl) :
    Calls Try.prog 12 #[] w fun e w' => e = .returned (.bool r) ∧ Below w.heap.size w w' := by
  have HT_ := Aside0.mk hT_
  clear hT_
  have hu26 := Try.underlying26
  have hu37 := Try.underlying37
  have HB := Aside0.mk (Below.refl w.heap.size w)
  have H : ((inode_Encode.f k 3 0 1 2 (⟨#[47, 97]⟩ : ByteArray)).bind fun bt211 => ((inode_Decode.f k bt211.1).bind fun bt213 => ((inode_Encode.f k 1 0 2 0 (⟨#[]⟩ : ByteArray)).bind fun bt220 => ((inode_Key.f k 2 1 (⟨#[97]⟩ : ByteArray) 0).bind fun bt222 => ((inode_Parse.f k (⟨#[99, 0, 0, 0, 2, 0, 0, 0, 3]⟩ : ByteArray)).bind fun bt224 => (if (bt211.1.size : Int) = 15 then (if bt211.2 = 0 then (if bt213.2.2.2.2.1.toList = ([47, 97] : List UInt8) then (if bt213.2.2.2.2.2 = 0 then (if bt220.2 = 4 then (if bt222.1.toList = ([100, 0, 0, 0, 1, 97] : List UInt8) then (if bt222.2 = 0 then (if (bt224.1 == 3 && (bt224.2.1 == 2 && (bt224.2.2.1.toList == ([] : List UInt8) && (bt224.2.2.2.1 == 3)))) = true then (if bt224.2.2.2.2 = 0 then ((inode_Prefix.f k 2 1).bind fun t230 => (if 5 ≤ (bt222.1.size : Int) then (some (t230.toList == (bt222.1.extract 0 5).toList)) else (none))) else (some false)) else (some false)) else (some false)) else (some false)) else (some false)) else (some false)) else (some false)) else (some false)) else (some false))))))) = some r := h
  clear h
  replace H := Option.bind_eq_some_iff.mp H
  obtain ⟨⟨t211, t212⟩, A10, H⟩ := H
  replace H : ((inode_Decode.f k t211).bind fun bt213 => ((inode_Encode.f k 1 0 2 0 (⟨#[]⟩ : ByteArray)).bind fun bt220 => ((inode_Key.f k 2 1 (⟨#[97]⟩ : ByteArray) 0).bind fun bt222 => ((inode_Parse.f k (⟨#[99, 0, 0, 0, 2, 0, 0, 0, 3]⟩ : ByteArray)).bind fun bt224 => (if (t211.size : Int) = 15 then (if t212 = 0 then (if bt213.2.2.2.2.1.toList = ([47, 97] : List UInt8) then (if bt213.2.2.2.2.2 = 0 then (if bt220.2 = 4 then (if bt222.1.toList = ([100, 0, 0, 0, 1, 97] : List UInt8) then (if bt222.2 = 0 then (if (bt224.1 == 3 && (bt224.2.1 == 2 && (bt224.2.2.1.toList == ([] : List UInt8) && (bt224.2.2.2.1 == 3)))) = true then (if bt224.2.2.2.2 = 0 then ((inode_Prefix.f k 2 1).bind fun t230 => (if 5 ≤ (bt222.1.size : Int) then (some (t230.toList == (bt222.1.extract 0 5).toList)) else (none))) else (some false)) else (some false)) else (some false)) else (some false)) else (some false)) else (some false)) else (some false)) else (some false)) else (some false)))))) = some r := H
  have A1 := Aside0.mk A10
  clear A10
  replace H := Option.bind_eq_some_iff.mp H
  obtain ⟨⟨t213, t214, t215, t216, t217, t218⟩, A20, H⟩ := H
  replace H : ((inode_Encode.f k 1 0 2 0 (⟨#[]⟩ : ByteArray)).bind fun bt220 => ((inode_Key.f k 2 1 (⟨#[97]⟩ : ByteArray) 0).bind fun bt222 => ((inode_Parse.f k (⟨#[99, 0, 0, 0, 2, 0, 0, 0, 3]⟩ : ByteArray)).bind fun bt224 => (if (t211.size : Int) = 15 then (if t212 = 0 then (if t217.toList = ([47, 97] : List UInt8) then (if t218 = 0 then (if bt220.2 = 4 then (if bt222.1.toList = ([100, 0, 0, 0, 1, 97] : List UInt8) then (if bt222.2 = 0 then (if (bt224.1 == 3 && (bt224.2.1 == 2 && (bt224.2.2.1.toList == ([] : List UInt8) && (bt224.2.2.2.1 == 3)))) = true then (if bt224.2.2.2.2 = 0 then ((inode_Prefix.f k 2 1).bind fun t230 => (if 5 ≤ (bt222.1.size : Int) then (some (t230.toList == (bt222.1.extract 0 5).toList)) else (none))) else (some false)) else (some false)) else (some false)) else (some false)) else (some false)) else (some false)) else (some false)) else (some false)) else (some false))))) = some r := H
  have A2 := Aside0.mk A20
  clear A20
  replace H := Option.bind_eq_some_iff.mp H
  obtain ⟨⟨t220, t221⟩, A30, H⟩ := H
  replace H : ((inode_Key.f k 2 1 (⟨#[97]⟩ : ByteArray) 0).bind fun bt222 => ((inode_Parse.f k (⟨#[99, 0, 0, 0, 2, 0, 0, 0, 3]⟩ : ByteArray)).bind fun bt224 => (if (t211.size : Int) = 15 then (if t212 = 0 then (if t217.toList = ([47, 97] : List UInt8) then (if t218 = 0 then (if t221 = 4 then (if bt222.1.toList = ([100, 0, 0, 0, 1, 97] : List UInt8) then (if bt222.2 = 0 then (if (bt224.1 == 3 && (bt224.2.1 == 2 && (bt224.2.2.1.toList == ([] : List UInt8) && (bt224.2.2.2.1 == 3)))) = true then (if bt224.2.2.2.2 = 0 then ((inode_Prefix.f k 2 1).bind fun t230 => (if 5 ≤ (bt222.1.size : Int) then (some (t230.toList == (bt222.1.extract 0 5).toList)) else (none))) else (some false)) else (some false)) else (some false)) else (some false)) else (some false)) else (some false)) else (some false)) else (some false)) else (some false)))) = some r := H
  have A3 := Aside0.mk A30
  clear A30
  replace H := Option.bind_eq_some_iff.mp H
  obtain ⟨⟨t222, t223⟩, A40, H⟩ := H
  replace H : ((inode_Parse.f k (⟨#[99, 0, 0, 0, 2, 0, 0, 0, 3]⟩ : ByteArray)).bind fun bt224 => (if (t211.size : Int) = 15 then (if t212 = 0 then (if t217.toList = ([47, 97] : List UInt8) then (if t218 = 0 then (if t221 = 4 then (if t222.toList = ([100, 0, 0, 0, 1, 97] : List UInt8) then (if t223 = 0 then (if (bt224.1 == 3 && (bt224.2.1 == 2 && (bt224.2.2.1.toList == ([] : List UInt8) && (bt224.2.2.2.1 == 3)))) = true then (if bt224.2.2.2.2 = 0 then ((inode_Prefix.f k 2 1).bind fun t230 => (if 5 ≤ (t222.size : Int) then (some (t230.toList == (t222.extract 0 5).toList)) else (none))) else (some false)) else (some false)) else (some false)) else (some false)) else (some false)) else (some false)) else (some false)) else (some false)) else (some false))) = some r := H
  have A4 := Aside0.mk A40
  clear A40
  replace H := Option.bind_eq_some_iff.mp H
  obtain ⟨⟨t224, t225, t226, t227, t228⟩, A50, H⟩ := H
  replace H : (if (t211.size : Int) = 15 then (if t212 = 0 then (if t217.toList = ([47, 97] : List UInt8) then (if t218 = 0 then (if t221 = 4 then (if t222.toList = ([100, 0, 0, 0, 1, 97] : List UInt8) then (if t223 = 0 then (if (t224 == 3 && (t225 == 2 && (t226.toList == ([] : List UInt8) && (t227 == 3)))) = true then (if t228 = 0 then ((inode_Prefix.f k 2 1).bind fun t230 => (if 5 ≤ (t222.size : Int) then (some (t230.toList == (t222.extract 0 5).toList)) else (none))) else (some false)) else (some false)) else (some false)) else (some false)) else (some false)) else (some false)) else (some false)) else (some false)) else (some false)) = some r := H
  have A5 := Aside0.mk A50
  clear A50
  by_cases c6 : (t211.size : Int) = 15
  · rw [if_pos c6] at H
    have c6b0 : ((t211.size : Int) == 15) = true := beq_iff_eq.mpr c6
    have c6b1 : ((t211.size : Int) != 15) = false := bne_eq_false_iff_eq.mpr c6
    clear c6
    by_cases c7 : t212 = 0
    · rw [if_pos c7] at H
      have c7b0 : (t212 == 0) = true := beq_iff_eq.mpr c7
      have c7b1 : (t212 != 0) = false := bne_eq_false_iff_eq.mpr c7
      clear c7
      by_cases c8 : t217.toList = ([47, 97] : List UInt8)
      · rw [if_pos c8] at H
        have c8b0 : (t217.toList == ([47, 97] : List UInt8)) = true := beq_iff_eq.mpr c8
        have c8b1 : (t217.toList != ([47, 97] : List UInt8)) = false := bne_eq_false_iff_eq.mpr c8
        clear c8
        by_cases c9 : t218 = 0
        · rw [if_pos c9] at H
          have c9b0 : (t218 == 0) = true := beq_iff_eq.mpr c9
          have c9b1 : (t218 != 0) = false := bne_eq_false_iff_eq.mpr c9
          clear c9
          by_cases c10 : t221 = 4
          · rw [if_pos c10] at H
            have c10b0 : (t221 == 4) = true := beq_iff_eq.mpr c10
            have c10b1 : (t221 != 4) = false := bne_eq_false_iff_eq.mpr c10
            clear c10
            by_cases c11 : t222.toList = ([100, 0, 0, 0, 1, 97] : List UInt8)
            · rw [if_pos c11] at H
              have c11b0 : (t222.toList == ([100, 0, 0, 0, 1, 97] : List UInt8)) = true := beq_iff_eq.mpr c11
              have c11b1 : (t222.toList != ([100, 0, 0, 0, 1, 97] : List UInt8)) = false := bne_eq_false_iff_eq.mpr c11
              clear c11
              by_cases c12 : t223 = 0
              · rw [if_pos c12] at H
                have c12b0 : (t223 == 0) = true := beq_iff_eq.mpr c12
                have c12b1 : (t223 != 0) = false := bne_eq_false_iff_eq.mpr c12
                clear c12
                by_cases c13 : (t224 == 3 && (t225 == 2 && (t226.toList == ([] : List UInt8) && (t227 == 3)))) = true
                · rw [if_pos c13] at H
                  have c13b0 : (t224 == 3 && (t225 == 2 && (t226.toList == ([] : List UInt8) && (t227 == 3)))) = true := c13
                  (try (have c13b0s1 := c13b0; simp only [c7b0, c9b0, c10b0, c12b0, Bool.false_and, Bool.true_and, Bool.and_false, Bool.and_true, Bool.bne_false, Bool.bne_true, Bool.not_eq_true', Bool.not_eq_false'] at c13b0s1))
                  (try (have c13b0w := c13b0; simp only [show ∀ l : List UInt8, (l == []) = l.isEmpty from fun l => by cases l <;> rfl] at c13b0w))
                  (try (have c13b1 : decide (t224 = 3 && (t225 == 2 && (t226.toList == ([] : List UInt8) && (t227 == 3)))) = true := by simpa using c13))
                  (try (have c13b2 : (t224 == 3 && (t225 == 2 && (t226.toList == ([] : List UInt8) && (t227 == 3)))) = true := by simpa using c13))
                  clear c13
                  by_cases c14 : t228 = 0
                  · rw [if_pos c14] at H
                    have c14b0 : (t228 == 0) = true := beq_iff_eq.mpr c14
                    (try (have c13b0s2 := c13b0; simp only [c7b0, c9b0, c10b0, c12b0, c14b0, Bool.false_and, Bool.true_and, Bool.and_false, Bool.and_true, Bool.bne_false, Bool.bne_true, Bool.not_eq_true', Bool.not_eq_false'] at c13b0s2))
                    have c14b1 : (t228 != 0) = false := bne_eq_false_iff_eq.mpr c14
                    clear c14
                    replace H := Option.bind_eq_some_iff.mp H
                    obtain ⟨t230, A150, H⟩ := H
                    replace H : (if 5 ≤ (t222.size : Int) then (some (t230.toList == (t222.extract 0 5).toList)) else (none)) = some r := H
                    have A15 := Aside0.mk A150
                    clear A150
                    by_cases c16 : 5 ≤ (t222.size : Int)
                    · rw [if_pos c16] at H
                      have c16b0 := eq_true c16
                      have c16b1 : decide (5 ≤ (t222.size : Int)) = true := decide_eq_true c16
                      clear c16
                      obtain rfl := Option.some.inj H
                      go_enter Try.func12, Try.ntmps12
                      try go_wp2_with (first | ((with_reducible refine gate_callee (f := 8) rfl ?_); refine goesL_ (some 13) rfl rfl Try.func8 (by kernel_rfl) rfl #[.agg #[.int .u8 3, .int .u16 0, .int .u32 1, .int .u32 2, .string (⟨#[47, 97]⟩ : ByteArray)]] rfl (by (try simp only [List.map_toArray, List.map_cons, List.map_nil]); first | done | rfl | (simp only [List.length_drop, List.length_take]; rfl)) ?_; (with_reducible refine (inode_Encode.calls k 3 0 1 2 (⟨#[47, 97]⟩ : ByteArray) t211 t212 _ A1.out).mono ?_); rintro e w17 ⟨rfl, hb⟩; refine ⟨_, rfl, ?_⟩; have n0_ := Aside0.mk (below_step (by repeat (first | (with_reducible first | exact HB.out | apply below_alloc | apply pw_below_drewN | apply below_drew1) | exact HB.out)) hb); clear HB; have HB := n0_; clear n0_; (try clear hb); (try clear hb2); (try clear hk); (try clear hi)) | ((with_reducible refine gate_callee (f := 10) rfl ?_); refine goesL_ (some 18) rfl rfl Try.func10 (by kernel_rfl) rfl #[.string t211] rfl (by (try simp only [List.map_toArray, List.map_cons, List.map_nil]); first | done | rfl | (simp only [List.length_drop, List.length_take]; rfl)) ?_; (with_reducible refine (inode_Decode.calls k t211 t213 t214 t215 t216 t217 t218 _ A2.out).mono ?_); rintro e w18 ⟨rfl, hb⟩; refine ⟨_, rfl, ?_⟩; have n0_ := Aside0.mk (below_step (by repeat (first | (with_reducible first | exact HB.out | apply below_alloc | apply pw_below_drewN | apply below_drew1) | exact HB.out)) hb); clear HB; have HB := n0_; clear n0_; (try clear hb); (try clear hb2); (try clear hk); (try clear hi)) | ((with_reducible refine gate_dst (N := 3) rfl ?_); refine box_event ?hg (N := 3) ?hd (cs := #[.int .u8 0, .int .u16 0, .int .u32 0, .int .u32 0, .string (⟨#[]⟩ : ByteArray)]) (t := 26) ?hr ?_; (case hd => rfl); (case hg => rfl); (case hr => first | (go_simp; done) | (go_simp; rfl)); intro gb219 hg w19 hbox hb; have n0_ := Aside0.mk (below_step (by repeat (first | (with_reducible first | exact HB.out | apply below_alloc | apply pw_below_drewN | apply below_drew1) | exact HB.out)) hb); have n1_ := Aside0.mk (hbox); have n2_ := Aside0.mk ((by rw [hg]; exact (below_size (by repeat (first | (with_reducible first | exact HB.out | apply below_alloc | apply pw_below_drewN | apply below_drew1) | exact HB.out))) : w.heap.size ≤ gb219)); have n3_ := Aside0.mk ((by rw [hg]; exact (below_size (by repeat (first | (with_reducible first | exact HB.out | apply below_alloc | apply pw_below_drewN | apply below_drew1) | exact HB.out))) : w.heap.size ≤ gb219)); clear HB; have HB := n0_; have BK219 := n1_; have GW219 := n2_; have GE219 := n3_; clear n0_ n1_ n2_ n3_; clear hb hbox hg; have hcz20_0 : w19.cell? ⟨gb219, 0, none⟩ = some (.int .u8 0) := (blk_cell BK219.out 0).trans rfl; have hcz20_1 : w19.cell? ⟨gb219, 1, none⟩ = some (.int .u16 0) := (blk_cell BK219.out 1).trans rfl; have hcz20_2 : w19.cell? ⟨gb219, 2, none⟩ = some (.int .u32 0) := (blk_cell BK219.out 2).trans rfl; have hcz20_3 : w19.cell? ⟨gb219, 3, none⟩ = some (.int .u32 0) := (blk_cell BK219.out 3).trans rfl; have hcz20_4 : w19.cell? ⟨gb219, 4, none⟩ = some (.string (⟨#[]⟩ : ByteArray)) := (blk_cell BK219.out 4).trans rfl; have hfz20_0 := blk_frozen BK219.out 0; have hfz20_1 := blk_frozen BK219.out 1; have hfz20_2 := blk_frozen BK219.out 2; have hfz20_3 := blk_frozen BK219.out 3; have hfz20_4 := blk_frozen BK219.out 4) | ((with_reducible refine gate_callee (f := 8) rfl ?_); refine goesL_ (some 23) rfl rfl Try.func8 (by kernel_rfl) rfl #[.agg #[.int .u8 1, .int .u16 0, .int .u32 2, .int .u32 0, .string (⟨#[]⟩ : ByteArray)]] rfl (by (try simp only [List.map_toArray, List.map_cons, List.map_nil]); first | done | rfl | (simp only [List.length_drop, List.length_take]; rfl)) ?_; (with_reducible refine (inode_Encode.calls k 1 0 2 0 (⟨#[]⟩ : ByteArray) t220 t221 _ A3.out).mono ?_); rintro e w21 ⟨rfl, hb⟩; refine ⟨_, rfl, ?_⟩; have n0_ := Aside0.mk (blk_below (g := gb219) (o := .cells #[.int .u8 t213, .int .u16 t214, .int .u32 t215, .int .u32 t216, .string t217] 26 (0, 0)) (by (with_reducible repeat (first | refine blk_drewN ?_ _ | refine blk_drew ?_ | refine blk_alloc ?_ _)); refine blk_put (cs := #[.int .u8 t213, .int .u16 t214, .int .u32 t215, .int .u32 t216, .string (⟨#[]⟩ : ByteArray)]) ?_ 4 _ rfl; (with_reducible repeat (first | refine blk_drewN ?_ _ | refine blk_drew ?_ | refine blk_alloc ?_ _)); refine blk_put (cs := #[.int .u8 t213, .int .u16 t214, .int .u32 t215, .int .u32 0, .string (⟨#[]⟩ : ByteArray)]) ?_ 3 _ rfl; (with_reducible repeat (first | refine blk_drewN ?_ _ | refine blk_drew ?_ | refine blk_alloc ?_ _)); refine blk_put (cs := #[.int .u8 t213, .int .u16 t214, .int .u32 0, .int .u32 0, .string (⟨#[]⟩ : ByteArray)]) ?_ 2 _ rfl; (with_reducible repeat (first | refine blk_drewN ?_ _ | refine blk_drew ?_ | refine blk_alloc ?_ _)); refine blk_put (cs := #[.int .u8 t213, .int .u16 0, .int .u32 0, .int .u32 0, .string (⟨#[]⟩ : ByteArray)]) ?_ 1 _ rfl; (with_reducible repeat (first | refine blk_drewN ?_ _ | refine blk_drew ?_ | refine blk_alloc ?_ _)); refine blk_put (cs := #[.int .u8 0, .int .u16 0, .int .u32 0, .int .u32 0, .string (⟨#[]⟩ : ByteArray)]) ?_ 0 _ rfl; (with_reducible repeat (first | refine blk_drewN ?_ _ | refine blk_drew ?_ | refine blk_alloc ?_ _)); exact BK219.out) hb); have n1_ := Aside0.mk (below_step (by repeat (first | (with_reducible first | exact HB.out | apply below_alloc | apply pw_below_drewN | apply below_drew1 | refine below_set ?_ GE219.out) | exact HB.out)) hb); clear BK219; clear HB; have BK219 := n0_; have HB := n1_; clear n0_ n1_; (try clear hb); (try clear hb2); (try clear hk); (try clear hi)) | ((with_reducible refine gate_callee (f := 15) rfl ?_); refine goesL_ (some 28) rfl rfl Try.func15 (by kernel_rfl) rfl #[.agg #[.int .u8 2, .int .u32 1, .string (⟨#[97]⟩ : ByteArray), .int .u32 0]] rfl (by (try simp only [List.map_toArray, List.map_cons, List.map_nil]); first | done | rfl | (simp only [List.length_drop, List.length_take]; rfl)) ?_; (with_reducible refine (inode_Key.calls k 2 1 (⟨#[97]⟩ : ByteArray) 0 t222 t223 _ A4.out).mono ?_); rintro e w22 ⟨rfl, hb⟩; refine ⟨_, rfl, ?_⟩; have n0_ := Aside0.mk (blk_below (g := gb219) (o := .cells #[.int .u8 t213, .int .u16 t214, .int .u32 t215, .int .u32 t216, .string t217] 26 (0, 0)) (by (with_reducible repeat (first | refine blk_drewN ?_ _ | refine blk_drew ?_ | refine blk_alloc ?_ _)); exact BK219.out) hb); have n1_ := Aside0.mk (below_step (by repeat (first | (with_reducible first | exact HB.out | apply below_alloc | apply pw_below_drewN | apply below_drew1 | refine below_set ?_ GE219.out) | exact HB.out)) hb); clear BK219; clear HB; have BK219 := n0_; have HB := n1_; clear n0_ n1_; (try clear hb); (try clear hb2); (try clear hk); (try clear hi)) | ((with_reducible refine gate_callee (f := 17) rfl ?_); refine goesL_ (some 32) rfl rfl Try.func17 (by kernel_rfl) rfl #[.string (⟨#[99, 0, 0, 0, 2, 0, 0, 0, 3]⟩ : ByteArray)] rfl (by (try simp only [List.map_toArray, List.map_cons, List.map_nil]); first | done | rfl | (simp only [List.length_drop, List.length_take]; rfl)) ?_; (with_reducible refine (inode_Parse.calls k (⟨#[99, 0, 0, 0, 2, 0, 0, 0, 3]⟩ : ByteArray) t224 t225 t226 t227 t228 _ A5.out).mono ?_); rintro e w23 ⟨rfl, hb⟩; refine ⟨_, rfl, ?_⟩; have n0_ := Aside0.mk (blk_below (g := gb219) (o := .cells #[.int .u8 t213, .int .u16 t214, .int .u32 t215, .int .u32 t216, .string t217] 26 (0, 0)) (by (with_reducible repeat (first | refine blk_drewN ?_ _ | refine blk_drew ?_ | refine blk_alloc ?_ _)); exact BK219.out) hb); have n1_ := Aside0.mk (below_step (by repeat (first | (with_reducible first | exact HB.out | apply below_alloc | apply pw_below_drewN | apply below_drew1 | refine below_set ?_ GE219.out) | exact HB.out)) hb); clear BK219; clear HB; have BK219 := n0_; have HB := n1_; clear n0_ n1_; (try clear hb); (try clear hb2); (try clear hk); (try clear hi)) | ((with_reducible refine gate_dst (N := 9) rfl ?_); refine box_event ?hg (N := 9) ?hd (cs := #[.int .u8 0, .int .u32 0, .string (⟨#[]⟩ : ByteArray), .int .u32 0]) (t := 37) ?hr ?_; (case hd => rfl); (case hg => rfl); (case hr => first | (go_simp; done) | (go_simp; rfl)); intro gb229 hg w24 hbox hb; have n0_ := Aside0.mk (blk_below (g := gb219) (o := .cells #[.int .u8 t213, .int .u16 t214, .int .u32 t215, .int .u32 t216, .string t217] 26 (0, 0)) (by (with_reducible repeat (first | refine blk_drewN ?_ _ | refine blk_drew ?_ | refine blk_alloc ?_ _)); exact BK219.out) hb); have n1_ := Aside0.mk (below_step (by repeat (first | (with_reducible first | exact HB.out | apply below_alloc | apply pw_below_drewN | apply below_drew1 | refine below_set ?_ GE219.out) | exact HB.out)) hb); have n2_ := Aside0.mk (hbox); have n3_ := Aside0.mk ((by rw [hg]; exact (below_size (by repeat (first | (with_reducible first | exact HB.out | apply below_alloc | apply pw_below_drewN | apply below_drew1 | refine below_set ?_ GE219.out) | exact HB.out))) : w.heap.size ≤ gb229)); have n4_ := Aside0.mk ((by rw [hg]; exact (below_size (by repeat (first | (with_reducible first | exact HB.out | apply below_alloc | apply pw_below_drewN | apply below_drew1 | refine below_set ?_ GE219.out) | exact HB.out))) : w.heap.size ≤ gb229)); have n5_ := Aside0.mk ((by rw [hg]; exact Nat.ne_of_lt (blk_lt (g := gb219) (o := .cells #[.int .u8 t213, .int .u16 t214, .int .u32 t215, .int .u32 t216, .string t217] 26 (0, 0)) (by (with_reducible repeat (first | refine blk_drewN ?_ _ | refine blk_drew ?_ | refine blk_alloc ?_ _)); exact BK219.out)) : gb219 ≠ gb229)); have n6_ := Aside0.mk ((by rw [hg]; exact Nat.ne_of_gt (blk_lt (g := gb219) (o := .cells #[.int .u8 t213, .int .u16 t214, .int .u32 t215, .int .u32 t216, .string t217] 26 (0, 0)) (by (with_reducible repeat (first | refine blk_drewN ?_ _ | refine blk_drew ?_ | refine blk_alloc ?_ _)); exact BK219.out)) : gb229 ≠ gb219)); clear BK219; clear HB; have BK219 := n0_; have HB := n1_; have BK229 := n2_; have GW229 := n3_; have GE229 := n4_; have NB219_229 := n5_; have NB229_219 := n6_; clear n0_ n1_ n2_ n3_ n4_ n5_ n6_; clear hb hbox hg; have hnb25 := NB229_219.out; have hnc25 := NB219_229.out; have hcz26_0 : w24.cell? ⟨gb229, 0, none⟩ = some (.int .u8 0) := (blk_cell BK229.out 0).trans rfl; have hcz26_1 : w24.cell? ⟨gb229, 1, none⟩ = some (.int .u32 0) := (blk_cell BK229.out 1).trans rfl; have hcz26_2 : w24.cell? ⟨gb229, 2, none⟩ = some (.string (⟨#[]⟩ : ByteArray)) := (blk_cell BK229.out 2).trans rfl; have hcz26_3 : w24.cell? ⟨gb229, 3, none⟩ = some (.int .u32 0) := (blk_cell BK229.out 3).trans rfl; have hfz26_0 := blk_frozen BK229.out 0; have hfz26_1 := blk_frozen BK229.out 1; have hfz26_2 := blk_frozen BK229.out 2; have hfz26_3 := blk_frozen BK229.out 3))
                      have n0_ : Aside0 (((((w24.setCell ⟨gb229, 0, none⟩ (.int .u8 t224)).setCell ⟨gb229, 1, none⟩ (.int .u32 t225)).setCell ⟨gb229, 2, none⟩ (.string t226)).setCell ⟨gb229, 3, none⟩ (.int .u32 t227)).heap[gb219]? = some (.cells #[.int .u8 t213, .int .u16 t214, .int .u32 t215, .int .u32 t216, .string t217] 26 (0, 0))) := ⟨by (with_reducible repeat (first | refine blk_drewN ?_ _ | refine blk_drew ?_ | refine blk_alloc ?_ _)); refine blk_far ?_ NB219_229.out _; (with_reducible repeat (first | refine blk_drewN ?_ _ | refine blk_drew ?_ | refine blk_alloc ?_ _)); refine blk_far ?_ NB219_229.out _; (with_reducible repeat (first | refine blk_drewN ?_ _ | refine blk_drew ?_ | refine blk_alloc ?_ _)); refine blk_far ?_ NB219_229.out _; (with_reducible repeat (first | refine blk_drewN ?_ _ | refine blk_drew ?_ | refine blk_alloc ?_ _)); refine blk_far ?_ NB219_229.out _; (with_reducible repeat (first | refine blk_drewN ?_ _ | refine blk_drew ?_ | refine blk_alloc ?_ _)); exact BK219.out⟩
                      have n1_ : Aside0 (((((w24.setCell ⟨gb229, 0, none⟩ (.int .u8 t224)).setCell ⟨gb229, 1, none⟩ (.int .u32 t225)).setCell ⟨gb229, 2, none⟩ (.string t226)).setCell ⟨gb229, 3, none⟩ (.int .u32 t227)).heap[gb229]? = some (.cells #[.int .u8 t224, .int .u32 t225, .string t226, .int .u32 t227] 37 (0, 0))) := ⟨by (with_reducible repeat (first | refine blk_drewN ?_ _ | refine blk_drew ?_ | refine blk_alloc ?_ _)); refine blk_put (cs := #[.int .u8 t224, .int .u32 t225, .string t226, .int .u32 0]) ?_ 3 _ rfl; (with_reducible repeat (first | refine blk_drewN ?_ _ | refine blk_drew ?_ | refine blk_alloc ?_ _)); refine blk_put (cs := #[.int .u8 t224, .int .u32 t225, .string (⟨#[]⟩ : ByteArray), .int .u32 0]) ?_ 2 _ rfl; (with_reducible repeat (first | refine blk_drewN ?_ _ | refine blk_drew ?_ | refine blk_alloc ?_ _)); refine blk_put (cs := #[.int .u8 t224, .int .u32 0, .string (⟨#[]⟩ : ByteArray), .int .u32 0]) ?_ 1 _ rfl; (with_reducible repeat (first | refine blk_drewN ?_ _ | refine blk_drew ?_ | refine blk_alloc ?_ _)); refine blk_put (cs := #[.int .u8 0, .int .u32 0, .string (⟨#[]⟩ : ByteArray), .int .u32 0]) ?_ 0 _ rfl; (with_reducible repeat (first | refine blk_drewN ?_ _ | refine blk_drew ?_ | refine blk_alloc ?_ _)); exact BK229.out⟩
                      have n2_ : Aside0 (Below w.heap.size w ((((w24.setCell ⟨gb229, 0, none⟩ (.int .u8 t224)).setCell ⟨gb229, 1, none⟩ (.int .u32 t225)).setCell ⟨gb229, 2, none⟩ (.string t226)).setCell ⟨gb229, 3, none⟩ (.int .u32 t227))) := ⟨by repeat (first | (with_reducible first | exact HB.out | apply below_alloc | apply pw_below_drewN | apply below_drew1 | refine below_set ?_ GE219.out | refine below_set ?_ GE229.out) | exact HB.out)⟩
                      (try clear BK219)
                      (try clear BK229)
                      (try clear HB)
                      generalize ((((w24.setCell ⟨gb229, 0, none⟩ (.int .u8 t224)).setCell ⟨gb229, 1, none⟩ (.int .u32 t225)).setCell ⟨gb229, 2, none⟩ (.string t226)).setCell ⟨gb229, 3, none⟩ (.int .u32 t227)) = w27 at n0_ n1_ n2_ ⊢
                      have BK219 := n0_
                      have BK229 := n1_
                      have HB := n2_
                      clear n0_ n1_ n2_
                      have n0_ := Aside0.mk (blk_drew BK219.out)
                      have n1_ := Aside0.mk (blk_drew BK229.out)
                      have n2_ := Aside0.mk (below_drew1 HB.out)
                      clear BK219
                      clear BK229
                      clear HB
                      have BK219 := n0_
                      have BK229 := n1_
                      have HB := n2_
                      clear n0_ n1_ n2_
                      refine start_ (n := 44) (S := fun w' => w'.cell? ⟨gb219, 0, none⟩ = some (.int .u8 t213) ∧ w'.cell? ⟨gb219, 1, none⟩ = some (.int .u16 t214) ∧ w'.cell? ⟨gb219, 2, none⟩ = some (.int .u32 t215) ∧ w'.cell? ⟨gb219, 3, none⟩ = some (.int .u32 t216) ∧ w'.cell? ⟨gb219, 4, none⟩ = some (.string t217) ∧ w'.cell? ⟨gb229, 0, none⟩ = some (.int .u8 t224) ∧ w'.cell? ⟨gb229, 1, none⟩ = some (.int .u32 t225) ∧ w'.cell? ⟨gb229, 2, none⟩ = some (.string t226) ∧ w'.cell? ⟨gb229, 3, none⟩ = some (.int .u32 t227)) (ds := []) #[false, false, false, false, false, false, false, false, false, false, false, false, false, false, false, false, false, false, false, false, false, false, false, false, false, false, false, false, false, false, false, false, false, false, false, false, false, false, false, false, false, false, false, false] (by kernel_rfl) rfl rfl ⟨(blk_cell BK219.out 0).trans rfl, (blk_cell BK219.out 1).trans rfl, (blk_cell BK219.out 2).trans rfl, (blk_cell BK219.out 3).trans rfl, (blk_cell BK219.out 4).trans rfl, (blk_cell BK229.out 0).trans rfl, (blk_cell BK229.out 1).trans rfl, (blk_cell BK229.out 2).trans rfl, (blk_cell BK229.out 3).trans rfl⟩ (fun hHeld => ?_); refine with_tabW cambiumlaw12_lives.tab6 cambiumlaw12_lives.bits6 (fun HT_ HW_ => ?_)
                      generalize w27.drew = w28 at BK219 BK229 HB hHeld ⊢
                      refine pure_ (i := 0) (N := some 35) (v := ?_) (a' := ?_) #[true, false, false, false, false, false, false, false, false, false, false, false, false, false, false, false, false, false, false, false, false, false, false, false, false, false, false, false, false, false, false, false, false, false, false, false, false, false, false, false, false, false, false, false] rfl rfl (any_of HT_.out (by kernel_rfl)) (fun _ _ _ h => h) (Or.inl ⟨by rfl, ?_⟩) ?_ ?_
                      rotate_left
                      · intro w'
                        go_simp
                        with_reducible rfl
                      rotate_left
                      · simp only [Act.put, List.setIfInBounds_toArray, List.set_cons_zero, List.set_cons_succ, i64_w, i32_w]
                        rfl
                      refine pure_ (i := 1) (N := some 36) (v := ?_) (a' := ?_) #[true, true, false, false, false, false, false, false, false, false, false, false, false, false, false, false, false, false, false, false, false, false, false, false, false, false, false, false, false, false, false, false, false, false, false, false, false, false, false, false, false, false, false, false] rfl rfl (any_of HT_.out (by kernel_rfl)) (fun _ _ _ h => h) (Or.inl ⟨by rfl, ?_⟩) ?_ ?_
                      rotate_left
                      · intro w'
                        go_simp
                        with_reducible rfl
                      rotate_left
                      · simp only [Act.put, List.setIfInBounds_toArray, List.set_cons_zero, List.set_cons_succ, i64_w, i32_w]
                        rfl
                      refine pure_ (i := 2) (N := some 37) (v := ?_) (a' := ?_) #[true, true, true, false, false, false, false, false, false, false, false, false, false, false, false, false, false, false, false, false, false, false, false, false, false, false, false, false, false, false, false, false, false, false, false, false, false, false, false, false, false, false, false, false] rfl rfl (any_of HT_.out (by kernel_rfl)) (fun _ _ _ h => h) (Or.inl ⟨by rfl, ?_⟩) ?_ ?_
                      rotate_left
                      · intro w'
                        go_simp
                        with_reducible rfl
                      rotate_left
                      · simp only [Act.put, List.setIfInBounds_toArray, List.set_cons_zero, List.set_cons_succ, i64_w, i32_w]
                        rfl
                      refine pure_ (i := 3) (N := some 38) (v := ?_) (a' := ?_) #[true, true, true, true, false, false, false, false, false, false, false, false, false, false, false, false, false, false, false, false, false, false, false, false, false, false, false, false, false, false, false, false, false, false, false, false, false, false, false, false, false, false, false, false] rfl rfl (any_of HT_.out (by kernel_rfl)) (fun _ _ _ h => h) (Or.inl ⟨by rfl, ?_⟩) ?_ ?_
                      rotate_left
                      · intro w'
                        go_simp
                        with_reducible rfl
                      rotate_left
                      · simp only [Act.put, List.setIfInBounds_toArray, List.set_cons_zero, List.set_cons_succ, i64_w, i32_w]
                        rfl
                      refine pure_ (i := 4) (N := some 39) (v := ?_) (a' := ?_) #[true, true, true, true, true, false, false, false, false, false, false, false, false, false, false, false, false, false, false, false, false, false, false, false, false, false, false, false, false, false, false, false, false, false, false, false, false, false, false, false, false, false, false, false] rfl rfl (any_of HT_.out (by kernel_rfl)) (fun _ _ _ h => h) (Or.inl ⟨by rfl, ?_⟩) ?_ ?_
                      rotate_left
                      · intro w'
                        go_simp
                        with_reducible rfl
                      rotate_left
                      · simp only [Act.put, List.setIfInBounds_toArray, List.set_cons_zero, List.set_cons_succ, i64_w, i32_w]
                        rfl
                      refine pure_ (i := 5) (N := some 40) (v := ?_) (a' := ?_) #[true, true, true, true, true, true, false, false, false, false, false, false, false, false, false, false, false, false, false, false, false, false, false, false, false, false, false, false, false, false, false, false, false, false, false, false, false, false, false, false, false, false, false, false] rfl rfl (any_of HT_.out (by kernel_rfl)) (fun _ _ _ h => h) (Or.inl ⟨by rfl, ?_⟩) ?_ ?_
                      rotate_left
                      · intro w'
                        go_simp
                        with_reducible rfl
                      rotate_left
                      · simp only [Act.put, List.setIfInBounds_toArray, List.set_cons_zero, List.set_cons_succ, i64_w, i32_w]
                        rfl
                      refine pure_ (i := 6) (N := some 41) (v := ?_) (a' := ?_) #[true, true, true, true, true, true, true, false, false, false, false, false, false, false, false, false, false, false, false, false, false, false, false, false, false, false, false, false, false, false, false, false, false, false, false, false, false, false, false, false, false, false, false, false] rfl rfl (any_of HT_.out (by kernel_rfl)) (fun _ _ _ h => h) (Or.inl ⟨by rfl, ?_⟩) ?_ ?_
                      rotate_left
                      · intro w'
                        go_simp
                        with_reducible rfl
                      rotate_left
                      · simp only [Act.put, List.setIfInBounds_toArray, List.set_cons_zero, List.set_cons_succ, i64_w, i32_w]
                        rfl
                      refine pure_ (i := 7) (N := some 42) (v := ?_) (a' := ?_) #[true, true, true, true, true, true, true, true, false, false, false, false, false, false, false, false, false, false, false, false, false, false, false, false, false, false, false, false, false, false, false, false, false, false, false, false, false, false, false, false, false, false, false, false] rfl rfl (any_of HT_.out (by kernel_rfl)) (fun _ _ _ h => h) (Or.inl ⟨by rfl, ?_⟩) ?_ ?_
                      rotate_left
                      · intro w'
                        go_simp
                        with_reducible rfl
                      rotate_left
                      · simp only [Act.put, List.setIfInBounds_toArray, List.set_cons_zero, List.set_cons_succ, i64_w, i32_w]
                        rfl
                      refine pure_ (i := 8) (N := some 43) (v := ?_) (a' := ?_) #[true, true, true, true, true, true, true, true, true, false, false, false, false, false, false, false, false, false, false, false, false, false, false, false, false, false, false, false, false, false, false, false, false, false, false, false, false, false, false, false, false, false, false, false] rfl rfl (any_of HT_.out (by kernel_rfl)) (fun _ _ _ h => h) (Or.inl ⟨by rfl, ?_⟩) ?_ ?_
                      rotate_left
                      · intro w'
                        go_simp
                        with_reducible rfl
                      rotate_left
                      · simp only [Act.put, List.setIfInBounds_toArray, List.set_cons_zero, List.set_cons_succ, i64_w, i32_w]
                        rfl
                      refine take_ (i := 9) (N := some 44) (v := ?_) (a' := ?_) #[true, true, true, true, true, true, true, true, true, true, false, false, false, false, false, false, false, false, false, false, false, false, false, false, false, false, false, false, false, false, false, false, false, false, false, false, false, false, false, false, false, false, false, false] rfl rfl (take_ofW HT_.out HW_.out (by kernel_rfl)) (fun _ _ _ h => h) (Or.inl ⟨by rfl, ?_⟩) hHeld ?_ ?_
                      rotate_left
                      · rintro w' ⟨s0, s1, s2, s3, s4, s5, s6, s7, s8⟩
                        go_simp
                        with_reducible rfl
                      rotate_left
                      · simp only [Act.put, List.setIfInBounds_toArray, List.set_cons_zero, List.set_cons_succ, i64_w, i32_w]
                        rfl
                      refine pure_ (i := 10) (N := some 45) (v := ?_) (a' := ?_) #[true, true, true, true, true, true, true, true, true, true, true, false, false, false, false, false, false, false, false, false, false, false, false, false, false, false, false, false, false, false, false, false, false, false, false, false, false, false, false, false, false, false, false, false] rfl rfl (any_of HT_.out (by kernel_rfl)) (fun _ _ _ h => h) (Or.inl ⟨by rfl, ?_⟩) ?_ ?_
                      rotate_left
                      · intro w'
                        go_simp
                        with_reducible rfl
                      rotate_left
                      · simp only [Act.put, List.setIfInBounds_toArray, List.set_cons_zero, List.set_cons_succ, i64_w, i32_w]
                        rfl
                      refine pure_ (i := 11) (N := some 46) (v := ?_) (a' := ?_) #[true, true, true, true, true, true, true, true, true, true, true, true, false, false, false, false, false, false, false, false, false, false, false, false, false, false, false, false, false, false, false, false, false, false, false, false, false, false, false, false, false, false, false, false] rfl rfl (any_of HT_.out (by kernel_rfl)) (fun _ _ _ h => h) (Or.inl ⟨by rfl, ?_⟩) ?_ ?_
                      rotate_left
                      · intro w'
                        go_simp
                        with_reducible rfl
                      rotate_left
                      · simp only [Act.put, List.setIfInBounds_toArray, List.set_cons_zero, List.set_cons_succ, i64_w, i32_w]
                        rfl
                      refine pure_ (i := 12) (N := some 47) (v := ?_) (a' := ?_) #[true, true, true, true, true, true, true, true, true, true, true, true, true, false, false, false, false, false, false, false, false, false, false, false, false, false, false, false, false, false, false, false, false, false, false, false, false, false, false, false, false, false, false, false] rfl rfl (any_of HT_.out (by kernel_rfl)) (fun _ _ _ h => h) (Or.inl ⟨by rfl, ?_⟩) ?_ ?_
                      rotate_left
                      · intro w'
                        go_simp
                        with_reducible rfl
                      rotate_left
                      · simp only [Act.put, List.setIfInBounds_toArray, List.set_cons_zero, List.set_cons_succ, i64_w, i32_w]
                        rfl
                      refine pure_ (i := 13) (N := some 48) (v := ?_) (a' := ?_) #[true, true, true, true, true, true, true, true, true, true, true, true, true, true, false, false, false, false, false, false, false, false, false, false, false, false, false, false, false, false, false, false, false, false, false, false, false, false, false, false, false, false, false, false] rfl rfl (any_of HT_.out (by kernel_rfl)) (fun _ _ _ h => h) (Or.inl ⟨by rfl, ?_⟩) ?_ ?_
                      rotate_left
                      · intro w'
                        go_simp
                        with_reducible rfl
                      rotate_left
                      · simp only [Act.put, List.setIfInBounds_toArray, List.set_cons_zero, List.set_cons_succ, i64_w, i32_w]
                        rfl
                      refine pure_ (i := 14) (N := some 49) (v := ?_) (a' := ?_) #[true, true, true, true, true, true, true, true, true, true, true, true, true, true, true, false, false, false, false, false, false, false, false, false, false, false, false, false, false, false, false, false, false, false, false, false, false, false, false, false, false, false, false, false] rfl rfl (any_of HT_.out (by kernel_rfl)) (fun _ _ _ h => h) (Or.inl ⟨by rfl, ?_⟩) ?_ ?_
                      rotate_left
                      · intro w'
                        go_simp
                        with_reducible rfl
                      rotate_left
                      · simp only [Act.put, List.setIfInBounds_toArray, List.set_cons_zero, List.set_cons_succ, i64_w, i32_w]
                        rfl
                      refine pure_ (i := 15) (N := some 50) (v := ?_) (a' := ?_) #[true, true, true, true, true, true, true, true, true, true, true, true, true, true, true, true, false, false, false, false, false, false, false, false, false, false, false, false, false, false, false, false, false, false, false, false, false, false, false, false, false, false, false, false] rfl rfl (any_of HT_.out (by kernel_rfl)) (fun _ _ _ h => h) (Or.inl ⟨by rfl, ?_⟩) ?_ ?_
                      rotate_left
                      · intro w'
                        go_simp
                        with_reducible rfl
                      rotate_left
                      · simp only [Act.put, List.setIfInBounds_toArray, List.set_cons_zero, List.set_cons_succ, i64_w, i32_w]
                        rfl
                      refine pure_ (i := 16) (N := some 51) (v := ?_) (a' := ?_) #[true, true, true, true, true, true, true, true, true, true, true, true, true, true, true, true, true, false, false, false, false, false, false, false, false, false, false, false, false, false, false, false, false, false, false, false, false, false, false, false, false, false, false, false] rfl rfl (any_of HT_.out (by kernel_rfl)) (fun _ _ _ h => h) (Or.inl ⟨by rfl, ?_⟩) ?_ ?_
                      rotate_left
                      · intro w'
                        go_simp
                        with_reducible rfl
                      rotate_left
                      · simp only [Act.put, List.setIfInBounds_toArray, List.set_cons_zero, List.set_cons_succ, i64_w, i32_w]
                        rfl
                      refine pure_ (i := 17) (N := some 52) (v := ?_) (a' := ?_) #[true, true, true, true, true, true, true, true, true, true, true, true, true, true, true, true, true, true, false, false, false, false, false, false, false, false, false, false, false, false, false, false, false, false, false, false, false, false, false, false, false, false, false, false] rfl rfl (any_of HT_.out (by kernel_rfl)) (fun _ _ _ h => h) (Or.inl ⟨by rfl, ?_⟩) ?_ ?_
                      rotate_left
                      · intro w'
                        go_simp
                        with_reducible rfl
                      rotate_left
                      · simp only [Act.put, List.setIfInBounds_toArray, List.set_cons_zero, List.set_cons_succ, i64_w, i32_w]
                        rfl
                      refine pure_ (i := 18) (N := some 53) (v := ?_) (a' := ?_) #[true, true, true, true, true, true, true, true, true, true, true, true, true, true, true, true, true, true, true, false, false, false, false, false, false, false, false, false, false, false, false, false, false, false, false, false, false, false, false, false, false, false, false, false] rfl rfl (any_of HT_.out (by kernel_rfl)) (fun _ _ _ h => h) (Or.inl ⟨by rfl, ?_⟩) ?_ ?_
                      rotate_left
                      · intro w'
                        go_simp
                        with_reducible rfl
                      rotate_left
                      · simp only [Act.put, List.setIfInBounds_toArray, List.set_cons_zero, List.set_cons_succ, i64_w, i32_w]
                        rfl
                      refine pure_ (i := 19) (N := some 54) (v := ?_) (a' := ?_) #[true, true, true, true, true, true, true, true, true, true, true, true, true, true, true, true, true, true, true, true, false, false, false, false, false, false, false, false, false, false, false, false, false, false, false, false, false, false, false, false, false, false, false, false] rfl rfl (any_of HT_.out (by kernel_rfl)) (fun _ _ _ h => h) (Or.inl ⟨by rfl, ?_⟩) ?_ ?_
                      rotate_left
                      · intro w'
                        go_simp
                        with_reducible rfl
                      rotate_left
                      · simp only [Act.put, List.setIfInBounds_toArray, List.set_cons_zero, List.set_cons_succ, i64_w, i32_w]
                        rfl
                      refine pure_ (i := 20) (N := some 55) (v := ?_) (a' := ?_) #[true, true, true, true, true, true, true, true, true, true, true, true, true, true, true, true, true, true, true, true, true, false, false, false, false, false, false, false, false, false, false, false, false, false, false, false, false, false, false, false, false, false, false, false] rfl rfl (any_of HT_.out (by kernel_rfl)) (fun _ _ _ h => h) (Or.inl ⟨by rfl, ?_⟩) ?_ ?_
                      rotate_left
                      · intro w'
                        go_simp
                        with_reducible rfl
                      rotate_left
                      · simp only [Act.put, List.setIfInBounds_toArray, List.set_cons_zero, List.set_cons_succ, i64_w, i32_w]
                        rfl
                      refine pure_ (i := 21) (N := some 56) (v := ?_) (a' := ?_) #[true, true, true, true, true, true, true, true, true, true, true, true, true, true, true, true, true, true, true, true, true, true, false, false, false, false, false, false, false, false, false, false, false, false, false, false, false, false, false, false, false, false, false, false] rfl rfl (any_of HT_.out (by kernel_rfl)) (fun _ _ _ h => h) (Or.inl ⟨by rfl, ?_⟩) ?_ ?_
                      rotate_left
                      · intro w'
                        go_simp
                        with_reducible rfl
                      rotate_left
                      · simp only [Act.put, List.setIfInBounds_toArray, List.set_cons_zero, List.set_cons_succ, i64_w, i32_w]
                        rfl
                      refine pure_ (i := 22) (N := some 57) (v := ?_) (a' := ?_) #[true, true, true, true, true, true, true, true, true, true, true, true, true, true, true, true, true, true, true, true, true, true, true, false, false, false, false, false, false, false, false, false, false, false, false, false, false, false, false, false, false, false, false, false] rfl rfl (any_of HT_.out (by kernel_rfl)) (fun _ _ _ h => h) (Or.inl ⟨by rfl, ?_⟩) ?_ ?_
                      rotate_left
                      · intro w'
                        go_simp
                        with_reducible rfl
                      rotate_left
                      · simp only [Act.put, List.setIfInBounds_toArray, List.set_cons_zero, List.set_cons_succ, i64_w, i32_w]
                        rfl
                      refine pure_ (i := 23) (N := some 58) (v := ?_) (a' := ?_) #[true, true, true, true, true, true, true, true, true, true, true, true, true, true, true, true, true, true, true, true, true, true, true, true, false, false, false, false, false, false, false, false, false, false, false, false, false, false, false, false, false, false, false, false] rfl rfl (any_of HT_.out (by kernel_rfl)) (fun _ _ _ h => h) (Or.inl ⟨by rfl, ?_⟩) ?_ ?_
                      rotate_left
                      · intro w'
                        go_simp
                        with_reducible rfl
                      rotate_left
                      · simp only [Act.put, List.setIfInBounds_toArray, List.set_cons_zero, List.set_cons_succ, i64_w, i32_w]
                        rfl
                      refine pure_ (i := 24) (N := some 59) (v := ?_) (a' := ?_) #[true, true, true, true, true, true, true, true, true, true, true, true, true, true, true, true, true, true, true, true, true, true, true, true, true, false, false, false, false, false, false, false, false, false, false, false, false, false, false, false, false, false, false, false] rfl rfl (any_of HT_.out (by kernel_rfl)) (fun _ _ _ h => h) (Or.inl ⟨by rfl, ?_⟩) ?_ ?_
                      rotate_left
                      · intro w'
                        go_simp
                        with_reducible rfl
                      rotate_left
                      · simp only [Act.put, List.setIfInBounds_toArray, List.set_cons_zero, List.set_cons_succ, i64_w, i32_w]
                        rfl
                      refine pure_ (i := 25) (N := some 60) (v := ?_) (a' := ?_) #[true, true, true, true, true, true, true, true, true, true, true, true, true, true, true, true, true, true, true, true, true, true, true, true, true, true, false, false, false, false, false, false, false, false, false, false, false, false, false, false, false, false, false, false] rfl rfl (any_of HT_.out (by kernel_rfl)) (fun _ _ _ h => h) (Or.inl ⟨by rfl, ?_⟩) ?_ ?_
                      rotate_left
                      · intro w'
                        go_simp
                        with_reducible rfl
                      rotate_left
                      · simp only [Act.put, List.setIfInBounds_toArray, List.set_cons_zero, List.set_cons_succ, i64_w, i32_w]
                        rfl
                      refine pure_ (i := 26) (N := some 61) (v := ?_) (a' := ?_) #[true, true, true, true, true, true, true, true, true, true, true, true, true, true, true, true, true, true, true, true, true, true, true, true, true, true, true, false, false, false, false, false, false, false, false, false, false, false, false, false, false, false, false, false] rfl rfl (any_of HT_.out (by kernel_rfl)) (fun _ _ _ h => h) (Or.inl ⟨by rfl, ?_⟩) ?_ ?_
                      rotate_left
                      · intro w'
                        go_simp
                        with_reducible rfl
                      rotate_left
                      · simp only [Act.put, List.setIfInBounds_toArray, List.set_cons_zero, List.set_cons_succ, i64_w, i32_w]
                        rfl
                      refine pure_ (i := 27) (N := some 62) (v := ?_) (a' := ?_) #[true, true, true, true, true, true, true, true, true, true, true, true, true, true, true, true, true, true, true, true, true, true, true, true, true, true, true, true, false, false, false, false, false, false, false, false, false, false, false, false, false, false, false, false] rfl rfl (any_of HT_.out (by kernel_rfl)) (fun _ _ _ h => h) (Or.inl ⟨by rfl, ?_⟩) ?_ ?_
                      rotate_left
                      · intro w'
                        go_simp
                        with_reducible rfl
                      rotate_left
                      · simp only [Act.put, List.setIfInBounds_toArray, List.set_cons_zero, List.set_cons_succ, i64_w, i32_w]
                        rfl
                      refine pure_ (i := 28) (N := some 63) (v := ?_) (a' := ?_) #[true, true, true, true, true, true, true, true, true, true, true, true, true, true, true, true, true, true, true, true, true, true, true, true, true, true, true, true, true, false, false, false, false, false, false, false, false, false, false, false, false, false, false, false] rfl rfl (any_of HT_.out (by kernel_rfl)) (fun _ _ _ h => h) (Or.inl ⟨by rfl, ?_⟩) ?_ ?_
                      rotate_left
                      · intro w'
                        go_simp
                        with_reducible rfl
                      rotate_left
                      · simp only [Act.put, List.setIfInBounds_toArray, List.set_cons_zero, List.set_cons_succ, i64_w, i32_w]
                        rfl
                      refine pure_ (i := 30) (N := some 65) (v := ?_) (a' := ?_) #[true, true, true, true, true, true, true, true, true, true, true, true, true, true, true, true, true, true, true, true, true, true, true, true, true, true, true, true, true, false, true, false, false, false, false, false, false, false, false, false, false, false, false, false] rfl rfl (any_of HT_.out (by kernel_rfl)) (fun _ _ _ h => h) (Or.inl ⟨by rfl, ?_⟩) ?_ ?_
                      rotate_left
                      · intro w'
                        go_simp
                        with_reducible rfl
                      rotate_left
                      · simp only [Act.put, List.setIfInBounds_toArray, List.set_cons_zero, List.set_cons_succ, i64_w, i32_w]
                        rfl
                      refine take_ (i := 29) (N := some 64) (v := ?_) (a' := ?_) #[true, true, true, true, true, true, true, true, true, true, true, true, true, true, true, true, true, true, true, true, true, true, true, true, true, true, true, true, true, true, true, false, false, false, false, false, false, false, false, false, false, false, false, false] rfl rfl (take_ofW HT_.out HW_.out (by kernel_rfl)) (fun _ _ _ h => h) (Or.inl ⟨by rfl, ?_⟩) hHeld ?_ ?_
                      rotate_left
                      · rintro w' ⟨s0, s1, s2, s3, s4, s5, s6, s7, s8⟩
                        go_simp
                        with_reducible rfl
                      rotate_left
                      · simp only [Act.put, List.setIfInBounds_toArray, List.set_cons_zero, List.set_cons_succ, i64_w, i32_w]
                        rfl
                      refine pure_ (i := 31) (N := some 66) (v := ?_) (a' := ?_) #[true, true, true, true, true, true, true, true, true, true, true, true, true, true, true, true, true, true, true, true, true, true, true, true, true, true, true, true, true, true, true, true, false, false, false, false, false, false, false, false, false, false, false, false] rfl rfl (any_of HT_.out (by kernel_rfl)) (fun _ _ _ h => h) (Or.inl ⟨by rfl, ?_⟩) ?_ ?_
                      rotate_left
                      · intro w'
                        go_simp
                        with_reducible rfl
                      rotate_left
                      · simp only [Act.put, List.setIfInBounds_toArray, List.set_cons_zero, List.set_cons_succ, i64_w, i32_w]
                        rfl
                      refine pure_ (i := 32) (N := some 67) (v := ?_) (a' := ?_) #[true, true, true, true, true, true, true, true, true, true, true, true, true, true, true, true, true, true, true, true, true, true, true, true, true, true, true, true, true, true, true, true, true, false, false, false, false, false, false, false, false, false, false, false] rfl rfl (any_of HT_.out (by kernel_rfl)) (fun _ _ _ h => h) (Or.inl ⟨by rfl, ?_⟩) ?_ ?_
                      rotate_left
                      · intro w'
                        go_simp
                        with_reducible rfl
                      rotate_left
                      · simp only [Act.put, List.setIfInBounds_toArray, List.set_cons_zero, List.set_cons_succ, i64_w, i32_w]
                        rfl
                      refine pure_ (i := 33) (N := some 68) (v := ?_) (a' := ?_) #[true, true, true, true, true, true, true, true, true, true, true, true, true, true, true, true, true, true, true, true, true, true, true, true, true, true, true, true, true, true, true, true, true, true, false, false, false, false, false, false, false, false, false, false] rfl rfl (any_of HT_.out (by kernel_rfl)) (fun _ _ _ h => h) (Or.inl ⟨by rfl, ?_⟩) ?_ ?_
                      rotate_left
                      · intro w'
                        go_simp
                        with_reducible rfl
                      rotate_left
                      · simp only [Act.put, List.setIfInBounds_toArray, List.set_cons_zero, List.set_cons_succ, i64_w, i32_w]
                        rfl
                      refine pure_ (i := 34) (N := some 69) (v := ?_) (a' := ?_) #[true, true, true, true, true, true, true, true, true, true, true, true, true, true, true, true, true, true, true, true, true, true, true, true, true, true, true, true, true, true, true, true, true, true, true, false, false, false, false, false, false, false, false, false] rfl rfl (any_of HT_.out (by kernel_rfl)) (fun _ _ _ h => h) (Or.inl ⟨by rfl, ?_⟩) ?_ ?_
                      rotate_left
                      · intro w'
                        go_simp
                        with_reducible rfl
                      rotate_left
                      · simp only [Act.put, List.setIfInBounds_toArray, List.set_cons_zero, List.set_cons_succ, i64_w, i32_w]
                        rfl
                      refine pure_ (i := 35) (N := some 70) (v := ?_) (a' := ?_) #[true, true, true, true, true, true, true, true, true, true, true, true, true, true, true, true, true, true, true, true, true, true, true, true, true, true, true, true, true, true, true, true, true, true, true, true, false, false, false, false, false, false, false, false] rfl rfl (any_of HT_.out (by kernel_rfl)) (fun _ _ _ h => h) (Or.inl ⟨by rfl, ?_⟩) ?_ ?_
                      rotate_left
                      · intro w'
                        go_simp
                        with_reducible rfl
                      rotate_left
                      · simp only [Act.put, List.setIfInBounds_toArray, List.set_cons_zero, List.set_cons_succ, i64_w, i32_w]
                        rfl
                      refine pure_ (i := 36) (N := some 71) (v := ?_) (a' := ?_) #[true, true, true, true, true, true, true, true, true, true, true, true, true, true, true, true, true, true, true, true, true, true, true, true, true, true, true, true, true, true, true, true, true, true, true, true, true, false, false, false, false, false, false, false] rfl rfl (any_of HT_.out (by kernel_rfl)) (fun _ _ _ h => h) (Or.inl ⟨by rfl, ?_⟩) ?_ ?_
                      rotate_left
                      · intro w'
                        go_simp
                        with_reducible rfl
                      rotate_left
                      · simp only [Act.put, List.setIfInBounds_toArray, List.set_cons_zero, List.set_cons_succ, i64_w, i32_w]
                        rfl
                      refine pure_ (i := 37) (N := some 72) (v := ?_) (a' := ?_) #[true, true, true, true, true, true, true, true, true, true, true, true, true, true, true, true, true, true, true, true, true, true, true, true, true, true, true, true, true, true, true, true, true, true, true, true, true, true, false, false, false, false, false, false] rfl rfl (any_of HT_.out (by kernel_rfl)) (fun _ _ _ h => h) (Or.inl ⟨by rfl, ?_⟩) ?_ ?_
                      rotate_left
                      · intro w'
                        go_simp
                        with_reducible rfl
                      rotate_left
                      · simp only [Act.put, List.setIfInBounds_toArray, List.set_cons_zero, List.set_cons_succ, i64_w, i32_w]
                        rfl
                      refine pure_ (i := 39) (N := some 74) (v := ?_) (a' := ?_) #[true, true, true, true, true, true, true, true, true, true, true, true, true, true, true, true, true, true, true, true, true, true, true, true, true, true, true, true, true, true, true, true, true, true, true, true, true, true, false, true, false, false, false, false] rfl rfl (any_of HT_.out (by kernel_rfl)) (fun _ _ _ h => h) (Or.inl ⟨by rfl, ?_⟩) ?_ ?_
                      rotate_left
                      · intro w'
                        go_simp
                        with_reducible rfl
                      rotate_left
                      · simp only [Act.put, List.setIfInBounds_toArray, List.set_cons_zero, List.set_cons_succ, i64_w, i32_w]
                        rfl
                      refine pure_ (i := 40) (N := some 75) (v := ?_) (a' := ?_) #[true, true, true, true, true, true, true, true, true, true, true, true, true, true, true, true, true, true, true, true, true, true, true, true, true, true, true, true, true, true, true, true, true, true, true, true, true, true, false, true, true, false, false, false] rfl rfl (any_of HT_.out (by kernel_rfl)) (fun _ _ _ h => h) (Or.inl ⟨by rfl, ?_⟩) ?_ ?_
                      rotate_left
                      · intro w'
                        go_simp
                        with_reducible rfl
                      rotate_left
                      · simp only [Act.put, List.setIfInBounds_toArray, List.set_cons_zero, List.set_cons_succ, i64_w, i32_w]
                        rfl
                      refine one_ (i := 38) (N := some 73) #[true, true, true, true, true, true, true, true, true, true, true, true, true, true, true, true, true, true, true, true, true, true, true, true, true, true, true, true, true, true, true, true, true, true, true, true, true, true, true, true, true, false, false, false] rfl rfl (one_of HT_.out (by kernel_rfl)) (by decide) (fun K hK => ?_)
                      refine goes_ Try.func19 (by kernel_rfl) rfl #[.int .u8 2, .int .u32 1] (by rfl) rfl rfl (by (try simp only [List.map_toArray, List.map_cons, List.map_nil]); first | done | rfl | (simp only [List.length_drop, List.length_take]; rfl)) ?_
                      with_reducible refine (inode_Prefix.calls k 2 1 t230 _ A15.out).mono ?_
                      rintro e w29 ⟨rfl, hb⟩
                      refine ⟨_, rfl, ?_⟩
                      have n0_ := Aside0.mk (blk_below (g := gb219) (o := .cells #[.int .u8 t213, .int .u16 t214, .int .u32 t215, .int .u32 t216, .string t217] 26 (0, 0)) (by (with_reducible repeat (first | refine blk_drewN ?_ _ | refine blk_drew ?_ | refine blk_alloc ?_ _)); exact BK219.out) hb)
                      have n1_ := Aside0.mk (blk_below (g := gb229) (o := .cells #[.int .u8 t224, .int .u32 t225, .string t226, .int .u32 t227] 37 (0, 0)) (by (with_reducible repeat (first | refine blk_drewN ?_ _ | refine blk_drew ?_ | refine blk_alloc ?_ _)); exact BK229.out) hb)
                      have n2_ := Aside0.mk (below_step (by repeat (first | (with_reducible first | exact HB.out | apply below_alloc | apply pw_below_drewN | apply below_drew1 | refine below_set ?_ GE219.out | refine below_set ?_ GE229.out) | exact HB.out)) hb)
                      clear BK219
                      clear BK229
                      clear HB
                      have BK219 := n0_
                      have BK229 := n1_
                      have HB := n2_
                      clear n0_ n1_ n2_
                      (try clear hb)
                      (try clear hb2)
                      (try clear hk)
                      (try clear hi)
                      refine hK.out _ _ ⟨(blk_cell BK219.out 0).trans rfl, (blk_cell BK219.out 1).trans rfl, (blk_cell BK219.out 2).trans rfl, (blk_cell BK219.out 3).trans rfl, (blk_cell BK219.out 4).trans rfl, (blk_cell BK229.out 0).trans rfl, (blk_cell BK229.out 1).trans rfl, (blk_cell BK229.out 2).trans rfl, (blk_cell BK229.out 3).trans rfl⟩ (fun hHeld => ?_)
                      clear hK K
                      refine norm_ (a' := ?_) ?_ ?_
                      rotate_left
                      · show Act.put _ (some 73) _ = _
                        simp only [Act.put, List.setIfInBounds_toArray, List.set_cons_zero, List.set_cons_succ, i64_w, i32_w]
                        rfl
                      refine pure_ (i := 41) (N := some 76) (v := ?_) (a' := ?_) #[true, true, true, true, true, true, true, true, true, true, true, true, true, true, true, true, true, true, true, true, true, true, true, true, true, true, true, true, true, true, true, true, true, true, true, true, true, true, true, true, true, true, false, false] rfl rfl (any_of HT_.out (by kernel_rfl)) (fun _ _ _ h => h) (Or.inl ⟨by rfl, ?_⟩) ?_ ?_
                      rotate_left
                      · intro w'
                        go_simp
                        with_reducible rfl
                      rotate_left
                      · simp only [Act.put, List.setIfInBounds_toArray, List.set_cons_zero, List.set_cons_succ, i64_w, i32_w]
                        rfl
                      refine pure_ (i := 42) (N := some 77) (v := ?_) (a' := ?_) #[true, true, true, true, true, true, true, true, true, true, true, true, true, true, true, true, true, true, true, true, true, true, true, true, true, true, true, true, true, true, true, true, true, true, true, true, true, true, true, true, true, true, true, false] rfl rfl (any_of HT_.out (by kernel_rfl)) (fun _ _ _ h => h) (Or.inl ⟨by rfl, ?_⟩) ?_ ?_
                      rotate_left
                      · intro w'
                        go_simp
                        with_reducible rfl
                      rotate_left
                      · simp only [Act.put, List.setIfInBounds_toArray, List.set_cons_zero, List.set_cons_succ, i64_w, i32_w]
                        rfl
                      refine pure_ (i := 43) (N := some 0) (v := ?_) (a' := ?_) #[true, true, true, true, true, true, true, true, true, true, true, true, true, true, true, true, true, true, true, true, true, true, true, true, true, true, true, true, true, true, true, true, true, true, true, true, true, true, true, true, true, true, true, true] rfl rfl (any_of HT_.out (by kernel_rfl)) (fun _ _ _ h => h) (Or.inl ⟨by rfl, ?_⟩) ?_ ?_
                      rotate_left
                      · intro w'
                        go_simp
                        with_reducible rfl
                      rotate_left
                      · simp only [Act.put, List.setIfInBounds_toArray, List.set_cons_zero, List.set_cons_succ, i64_w, i32_w]
                        rfl
                      refine done_ (done_of HT_.out (by kernel_rfl)) ?_
                      try go_wp2
                      go_ret
                      exact ⟨by first | rfl | (simp [errW_none, errW_some] <;> rfl) | (simp [*, errW_none, errW_some] <;> rfl), by repeat (first | (with_reducible first | exact HB.out | apply below_alloc | apply pw_below_drewN | apply below_drew1 | refine below_set ?_ GE219.out | refine below_set ?_ GE229.out) | exact HB.out)⟩
                    · rw [if_neg c16] at H
                      exact absurd H (by simp)
                  · rw [if_neg c14] at H
                    have c14b0 : (t228 == 0) = false := beq_eq_false_iff_ne.mpr c14
                    (try (have c13b0s3 := c13b0; simp only [c7b0, c9b0, c10b0, c12b0, c14b0, Bool.false_and, Bool.true_and, Bool.and_false, Bool.and_true, Bool.bne_false, Bool.bne_true, Bool.not_eq_true', Bool.not_eq_false'] at c13b0s3))
                    have c14b1 : (t228 != 0) = true := bne_iff_ne.mpr c14
                    exact absurd ((Option.some.inj H).trans HT_.out) (by simp)
                · rw [if_neg c13] at H
                  have c13b0 : (t224 == 3 && (t225 == 2 && (t226.toList == ([] : List UInt8) && (t227 == 3)))) = false := by simpa using c13
                  (try (have c13b0s4 := c13b0; simp only [c7b0, c9b0, c10b0, c12b0, Bool.false_and, Bool.true_and, Bool.and_false, Bool.and_true, Bool.bne_false, Bool.bne_true, Bool.not_eq_true', Bool.not_eq_false'] at c13b0s4))
                  (try (have c13b0w := c13b0; simp only [show ∀ l : List UInt8, (l == []) = l.isEmpty from fun l => by cases l <;> rfl] at c13b0w))
                  (try (have c13b1 : decide (t224 = 3 && (t225 == 2 && (t226.toList == ([] : List UInt8) && (t227 == 3)))) = false := by simpa using c13))
                  (try (have c13b2 : (t224 == 3 && (t225 == 2 && (t226.toList == ([] : List UInt8) && (t227 == 3)))) = false := by simpa using c13))
                  (try (have c13b3 : ¬ (t224 = 3 && (t225 == 2 && (t226.toList == ([] : List UInt8) && (t227 == 3)))) := by simpa using c13))
                  clear c13
                  exact absurd ((Option.some.inj H).trans HT_.out) (by simp)
              · rw [if_neg c12] at H
                have c12b0 : (t223 == 0) = false := beq_eq_false_iff_ne.mpr c12
                have c12b1 : (t223 != 0) = true := bne_iff_ne.mpr c12
                exact absurd ((Option.some.inj H).trans HT_.out) (by simp)
            · rw [if_neg c11] at H
              have c11b0 : (t222.toList == ([100, 0, 0, 0, 1, 97] : List UInt8)) = false := beq_eq_false_iff_ne.mpr c11
              have c11b1 : (t222.toList != ([100, 0, 0, 0, 1, 97] : List UInt8)) = true := bne_iff_ne.mpr c11
              exact absurd ((Option.some.inj H).trans HT_.out) (by simp)
          · rw [if_neg c10] at H
            have c10b0 : (t221 == 4) = false := beq_eq_false_iff_ne.mpr c10
            have c10b1 : (t221 != 4) = true := bne_iff_ne.mpr c10
            exact absurd ((Option.some.inj H).trans HT_.out) (by simp)
        · rw [if_neg c9] at H
          have c9b0 : (t218 == 0) = false := beq_eq_false_iff_ne.mpr c9
          have c9b1 : (t218 != 0) = true := bne_iff_ne.mpr c9
          exact absurd ((Option.some.inj H).trans HT_.out) (by simp)
      · rw [if_neg c8] at H
        have c8b0 : (t217.toList == ([47, 97] : List UInt8)) = false := beq_eq_false_iff_ne.mpr c8
        have c8b1 : (t217.toList != ([47, 97] : List UInt8)) = true := bne_iff_ne.mpr c8
        exact absurd ((Option.some.inj H).trans HT_.out) (by simp)
    · rw [if_neg c7] at H
      have c7b0 : (t212 == 0) = false := beq_eq_false_iff_ne.mpr c7
      have c7b1 : (t212 != 0) = true := bne_iff_ne.mpr c7
      exact absurd ((Option.some.inj H).trans HT_.out) (by simp)
  · rw [if_neg c6] at H
    have c6b0 : ((t211.size : Int) == 15) = false := beq_eq_false_iff_ne.mpr c6
    have c6b1 : ((t211.size : Int) != 15) = true := bne_iff_ne.mpr c6
    exact absurd ((Option.some.inj H).trans HT_.out) (by simp)

end Go.Proofs.Ytocmpidbeagimaa.Z
end

section
/- 'lives' of the statements on inodes is true; the cells of arguments. -/
namespace Go.Proofs.Ytocmpidbeagimaa.Z
open Go.RowKit Go.Proofs.YtocmpidbeagimaaW.PrintWords Go.Proofs.YtocmpidbeagimaaW.PrintLast Go.Proofs.Ytocmpidbeagimaa.PM
theorem wf8 {n : Int} (h : (Lit.int .u8 n).wf = true) : 0 ≤ n ∧ n < 256 := by
  have := (Lit.wf_int_iff .u8 n).1 h
  simp only [IntKind.min, IntKind.max, IntKind.signed, IntKind.bits] at this
  simp at this
  omega
theorem wf16 {n : Int} (h : (Lit.int .u16 n).wf = true) : 0 ≤ n ∧ n < 65536 := by
  have := (Lit.wf_int_iff .u16 n).1 h
  simp only [IntKind.min, IntKind.max, IntKind.signed, IntKind.bits] at this
  simp at this
  omega
theorem wf32 {n : Int} (h : (Lit.int .u32 n).wf = true) : 0 ≤ n ∧ n < 4294967296 := by
  have := (Lit.wf_int_iff .u32 n).1 h
  simp only [IntKind.min, IntKind.max, IntKind.signed, IntKind.bits] at this
  simp at this
  omega
theorem lives_f : Ev (fun k => cambiumlaw12_lives.f k) true := by
  unfold cambiumlaw12_lives.f
  have s1 : Ev (fun k => inode_Encode.f k 3 0 1 2 ⟨#[47, 97]⟩) (⟨#[3, 0, 0, 0, 0, 0, 1, 0, 0, 0, 2, 0, 2, 47, 97]⟩, 0) := Ev.val (encode_f 3 0 1 2 ⟨#[47, 97]⟩ (by decide) (by decide) (by decide) (by decide)) rfl
  have s2 : Ev (fun k => inode_Decode.f k ⟨#[3, 0, 0, 0, 0, 0, 1, 0, 0, 0, 2, 0, 2, 47, 97]⟩) (3, 0, 1, 2, ⟨#[47, 97]⟩, 0) := Ev.val (decode_f _ (by decide)) rfl
  have s3 : Ev (fun k => inode_Encode.f k 1 0 2 0 ⟨#[]⟩) (⟨#[]⟩, 4) := Ev.val (encode_f 1 0 2 0 ⟨#[]⟩ (by decide) (by decide) (by decide) (by decide)) rfl
  have s4 : Ev (fun k => inode_Key.f k 2 1 ⟨#[97]⟩ 0) (⟨#[100, 0, 0, 0, 1, 97]⟩, 0) := Ev.val (key_f 2 1 ⟨#[97]⟩ 0 (by decide) (by decide) (by decide)) rfl
  have s5 : Ev (fun k => inode_Parse.f k ⟨#[99, 0, 0, 0, 2, 0, 0, 0, 3]⟩) (3, 2, ⟨#[]⟩, 3, 0) := Ev.val (parse_f _ (by decide)) rfl
  have s6 : Ev (fun k => inode_Prefix.f k 2 1) ⟨#[100, 0, 0, 0, 1]⟩ := Ev.val (prefix_f 2 1 (by decide) (by decide)) rfl
  refine Ev.bind s1 (Ev.bind s2 (Ev.bind s3 (Ev.bind s4 (Ev.bind s5 ?_))))
  refine Ev.ifp rfl (Ev.ifp rfl (Ev.ifp (by rw [ByteArray.toList_eq]) (Ev.ifp rfl (Ev.ifp rfl (Ev.ifp (by rw [ByteArray.toList_eq]) (Ev.ifp rfl (Ev.ifp ?_ (Ev.ifp rfl (Ev.bind s6 (Ev.ifp (by decide) (Ev.const ?_)))))))))))
  · simp only [ByteArray.toList_eq]; rfl
  · rw [ByteArray.toList_eq, ByteArray.toList_eq]; rfl
end Go.Proofs.Ytocmpidbeagimaa.Z
end

section
/- What a reading of an argument as data gives a contract: the values of a kind (Kd), well formed, and their bulk. -/
namespace Go.Proofs.Ytocmpidbeagimaa.Z
open Go.ChangeShapes Go.WideShapes Go.ChangeAt Go.RowKit Go.Deep Go.Proofs.YtocmpidbeagimaaW.PrintWords Go.Proofs.YtocmpidbeagimaaW.PrintLast
set_option linter.unusedVariables false
/-- Every reading of type t's cells is one of d, is G, and is of bulk B at least. -/
def Opens {α : Type} (P : Program) (t : TypeId) (d : Kd α) (G : α → Prop) (B : α → Nat) : Prop :=
  d.sz = P.cellsOf t ∧ ∀ {H : Type} {enc : TypeId × Value → H} {w : World} {base : Nat} {spare : Nat → Bool} {held : Bool} {fuel : Nat} {cs : List Value} {x : DataW H × List MemPlace},
    DataW.trod enc P w base spare held fuel t cs = some x → ∃ a, d.K w a cs ∧ G a ∧ B a ≤ Rows.uptoBulk x.1
theorem Opens.bool {P : Program} {t : TypeId} (ht : P.underlying t = some .bool) (hc : P.cellsOf t = 1) : Opens P t Kd.bool (fun _ => True) (fun _ => 1) := by
  refine ⟨hc.symm, fun h => ?_⟩
  obtain ⟨b, rfl, rfl⟩ := DataW.trod_bool ht h
  exact ⟨b, rfl, trivial, by simp [Rows.uptoBulk]⟩
theorem Opens.int {P : Program} {t : TypeId} {k : IntKind} (ht : P.underlying t = some (.int k)) (hc : P.cellsOf t = 1) : Opens P t (Kd.int k) (fun n => (Lit.int k n).wf = true) (fun _ => 1) := by
  refine ⟨hc.symm, fun h => ?_⟩
  obtain ⟨b, rfl, rfl, hw⟩ := DataW.trod_int ht h
  exact ⟨b, rfl, hw, by simp [Rows.uptoBulk]⟩
theorem Opens.string {P : Program} {t : TypeId} (ht : P.underlying t = some .string) (hc : P.cellsOf t = 1) : Opens P t Kd.string (fun s => s.size ≤ maxLen) (fun s => s.size + 1) := by
  refine ⟨hc.symm, fun h => ?_⟩
  obtain ⟨b, rfl, rfl, hw⟩ := DataW.trod_string ht h
  exact ⟨b, rfl, hw, by simp [Rows.uptoBulk]⟩
theorem bulk_len {H : Type} (l : List (DataW H)) {α : Type} {B : α → Nat} (xs : List α) (hl : xs.length = l.length) (h : ∀ (i : Nat) (a : α) (y : DataW H), xs[i]? = some a → l[i]? = some y → B a ≤ Rows.uptoBulk y) : (xs.map B).sum ≤ Rows.uptoBulkAll l := by
  induction l generalizing xs with
  | nil => have : xs = [] := List.eq_nil_of_length_eq_zero hl; subst this; simp [Rows.uptoBulkAll]
  | cons y l ih =>
    cases xs with
    | nil => simp at hl
    | cons a xs =>
      simp only [List.map_cons, List.sum_cons, Rows.uptoBulkAll]
      have h0 := h 0 a y rfl rfl
      have h1 := ih xs (by simpa using hl) (fun i a y ha hy => h (i + 1) a y (by simpa using ha) (by simpa using hy))
      omega
theorem list_of_each {α : Type} (p : Nat → α → Prop) : ∀ n : Nat, (∀ i, i < n → ∃ a, p i a) → ∃ l : List α, l.length = n ∧ ∀ i a, l[i]? = some a → p i a
  | 0, _ => ⟨[], rfl, fun i a h => by simp at h⟩
  | n + 1, h => by
    obtain ⟨l, hl, hp⟩ := list_of_each p n (fun i hi => h i (by omega))
    obtain ⟨a, ha⟩ := h n (by omega)
    refine ⟨l ++ [a], by simp [hl], fun i b hb => ?_⟩
    rcases Nat.lt_or_ge i l.length with hi | hi
    · rw [List.getElem?_append_left hi] at hb; exact hp i b hb
    · have hi2 : i = l.length := by
        have := (List.getElem?_eq_some_iff.1 hb).1
        simp at this; omega
      subst hi2
      have hb2 : a = b := by simpa using hb
      subst hb2
      rw [hl]; exact ha
/-- A slice, opened. -/
theorem Opens.row {α : Type} {P : Program} {t e : TypeId} {d : Kd α} {G : α → Prop} {B : α → Nat} (ht : P.underlying t = some (.slice e)) (hO : Opens P e d G B) (hpos : 0 < P.cellsOf e)
    {H : Type} {enc : TypeId × Value → H} {w : World} {base : Nat} {spare : Nat → Bool} {held : Bool} {fuel : Nat} {cs : List Value} {x : DataW H × List MemPlace} (h : DataW.trod enc P w base spare held fuel t cs = some x) :
    ∃ (A : Option Addr) (c : Nat) (l : List α), cs = [.slice A l.length c] ∧ l.length ≤ c ∧ c ≤ maxLen ∧ Kd.C d w A l.length l ∧ (∀ a ∈ l, G a) ∧ (l.map B).sum + 1 ≤ Rows.uptoBulk x.1 ∧ (x.1 = .nil ∧ l = [] ∨ ∃ el sp, x.1 = .slice el sp ∧ el.length = l.length) := by
  rcases DataW.trod_slice ht h with ⟨rfl, rfl⟩ | ⟨a, len, cap, elems, rest, n, _, rfl, rfl, hb, hl, hm, hlen, hel, _, _⟩
  · exact ⟨none, 0, [], rfl, Nat.le_refl _, Nat.zero_le _, Kd.C_nil _ _, by simp, by simp [Rows.uptoBulk], Or.inl ⟨rfl, rfl⟩⟩
  · have each : ∀ i, i < len → ∃ a' : α, ∃ cs' y, w.cells? base (a.add (i * P.cellsOf e)) (P.cellsOf e) = some cs' ∧ elems[i]? = some y ∧ d.K w a' cs' ∧ G a' ∧ B a' ≤ Rows.uptoBulk y.1 := by
      intro i hi
      have h1 := hel i hi
      obtain ⟨y, hy⟩ : ∃ y, elems[i]? = some y := ⟨elems[i]'(by omega), List.getElem?_eq_getElem (by omega)⟩
      rw [hy, Option.bind_eq_some_iff] at h1
      obtain ⟨cs', hcs, htr⟩ := h1
      obtain ⟨a', hK, hG, hB⟩ := hO.2 htr
      exact ⟨a', cs', y, hcs, hy, hK, hG, hB⟩
    obtain ⟨l, hll, hp⟩ := list_of_each _ len each
    subst hll
    refine ⟨some a, cap, l, rfl, hl, hm, ⟨rfl, by unfold maxLen at hm; omega, fun _ => ⟨a, rfl, fun j p hj => ?_⟩⟩, ?_, ?_, Or.inr ⟨_, _, rfl, by simpa using hlen⟩⟩
    · obtain ⟨cs', y, hcs, _, hK, _, _⟩ := hp j p hj
      obtain ⟨_, hln, hc⟩ := World.cells?_some hcs
      refine ⟨cs', by rw [hln, hO.1], hK, fun i u hu => ?_⟩
      have hi : i < P.cellsOf e := by rw [← hln]; exact (List.getElem?_eq_some_iff.1 hu).1
      have := hc i hi
      rw [hu] at this
      rw [hO.1, ← this]
      congr 1
      have hs : a.spot = none := by
        have h0 := hc 0 hpos
        rw [List.getElem?_eq_getElem (by omega)] at h0
        cases hsp : a.spot with
        | none => rfl
        | some s =>
          rcases Nat.eq_zero_or_pos (j * P.cellsOf e) with hz | hz
          · rw [hz] at h0
            have : w.cell? a = some _ := h0
            unfold World.cell? at this
            rw [hsp] at this
            split at this <;> simp at this
          · have hl0 : 0 < l.length := by have := (List.getElem?_eq_some_iff.1 hj).1; omega
            obtain ⟨p0, hp0⟩ : ∃ p0, l[0]? = some p0 := ⟨l[0], List.getElem?_eq_getElem hl0⟩
            obtain ⟨cs0, y0, hcs0, _, _, _, _⟩ := hp 0 p0 hp0
            obtain ⟨_, hln0, hc0⟩ := World.cells?_some hcs0
            have h00 := hc0 0 hpos
            rw [List.getElem?_eq_getElem (by omega), Nat.zero_mul] at h00
            have : w.cell? a = some _ := h00
            unfold World.cell? at this
            rw [hsp] at this
            split at this <;> simp at this
      obtain ⟨b, o, s⟩ := a
      simp only at hs
      subst hs
      rw [add_at, add_at, add_at, Nat.add_assoc]
    · intro b hb
      obtain ⟨i, hi⟩ := List.getElem?_of_mem hb
      exact (hp i b hi).choose_spec.choose_spec.2.2.2.1
    · simp only [Rows.uptoBulk]
      have := bulk_len (elems.map (·.1)) (B := B) l (by simp [hlen]) (fun i b y hb hy => by
        obtain ⟨cs', y', _, hy', _, _, hB⟩ := hp i b hb
        rw [List.getElem?_map, hy'] at hy
        simp at hy
        subst hy
        exact hB)
      omega
/-- A struct of fields of one cell: each field's cell and reading. -/
theorem flat_fields {P : Program} {t : TypeId} {fs : Array Field} (ht : P.underlying t = some (.struct fs)) (hone : oneCellFields P fs = true) (hC : P.cellsOf t = fs.size)
    {H : Type} {enc : TypeId × Value → H} {w : World} {base : Nat} {spare : Nat → Bool} {held : Bool} {fuel : Nat} {cs : List Value} {x : DataW H × List MemPlace} (h : DataW.trod enc P w base spare held fuel t cs = some x) :
    ∃ (ys : List (DataW H × List MemPlace)) (n : Nat), cs.length = fs.size ∧ ys.length = fs.size ∧ x.1 = .agg (ys.map (·.1)) ∧ ∀ (i : Nat) (f : Field) (c : Value), fs[i]? = some f → cs[i]? = some c → DataW.trod enc P w base spare held n f.type [c] = ys[i]? := by
  obtain ⟨xs, n, _, rfl, hl, hlen, hf⟩ := DataW.trod_struct ht h
  refine ⟨xs, n, hl.trans hC, hlen, rfl, fun i f c hfi hc => ?_⟩
  have h1 := hf i f hfi
  obtain ⟨o0, k0⟩ := hone_of hone i f hfi
  rw [o0, k0] at h1
  rw [← h1]
  congr 1
  have hi := (List.getElem?_eq_some_iff.1 hc).1
  rw [List.drop_eq_getElem_cons hi, List.take_succ_cons, List.take_zero]
  rw [List.getElem?_eq_getElem hi] at hc
  simp at hc
  rw [hc]
/-- A slice among the arguments: its length, by the form's reach. -/
theorem sized_row {H : Type} {P : Program} {ts : List TypeId} {ds : List (DataW H)} {j : Nat} {t e : TypeId} {d : DataW H} {α : Type} {l : List α}
    (hsz : (DataW.weightsEach P ts ds).all (· ≤ reachBytes) = true) (ht : ts[j]? = some t) (hd : ds[j]? = some d) (hu : P.underlying t = some (.slice e)) {b : Nat} (hb : P.bytesOf e = b)
    (hx : d = .nil ∧ l = [] ∨ ∃ el sp, d = .slice el sp ∧ el.length = l.length) : l.length * b ≤ 140737488351232 := by
  rcases hx with ⟨_, rfl⟩ | ⟨el, sp, rfl, hl⟩
  · simp
  · have := sized_slice hsz ht hd hu
    rw [hb, hl] at this
    exact Nat.le_trans (Nat.mul_le_mul_right _ (Nat.le_add_right _ _)) this
theorem string_len {s : ByteArray} : s.data.toList.length = s.size := by rw [Array.length_toList]; rfl
end Go.Proofs.Ytocmpidbeagimaa.Z
end

section
-- Printed by a program of this session (mp.py): what a reading gives of the kinds that are arguments.
namespace Go.Proofs.Ytocmpidbeagimaa.Z
open Go.ChangeShapes Go.WideShapes Go.ChangeAt Go.RowKit Go.Deep Go.Proofs.YtocmpidbeagimaaW.PrintWords
set_option linter.unusedVariables false
end Go.Proofs.Ytocmpidbeagimaa.Z
end
