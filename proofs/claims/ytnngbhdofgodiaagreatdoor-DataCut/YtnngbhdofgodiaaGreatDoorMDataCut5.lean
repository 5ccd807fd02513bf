/- DataCut: at every input the law's function returns true and leaves its arguments as they were; no condition beyond the row's own. Part 5 of 5: this session's own texts, laid together. -/
import Derived.Test.YtnngbhdofgodiaaGreatDoorMB1
import Derived.Test.YtnngbhdofgodiaaGreatDoorMB2
import Derived.Test.YtnngbhdofgodiaaGreatDoorMB4
import Derived.Test.YtnngbhdofgodiaaGreatDoorMB3
import Derived.Test.YtnngbhdofgodiaaGreatDoorCards
import Derived.Test.YtnngbhdofgodiaaGreatDoorTie
import Derived.Deep.DeepHandedRow
import Derived.WalkKit
import Derived.ProofKit
import Derived.OpenShut
import Derived.ShutString
import Derived.ChangeOld
import Derived.Below
import Derived.SizedLaws
import Derived.Carry
section
-- Printed by a program of this session (mp.py) out of the translation.
namespace Go.Proofs.YtnngbhdofgodiaaGreatDoor.Z
open Go.RowKit Go.Proofs.YtnngbhdofgodiaaGreatDoorW.PrintWords Go.Proofs.YtnngbhdofgodiaaGreatDoorW.PrintLast Go.Proofs.YtnngbhdofgodiaaGreatDoorW.PrintMore
attribute [local go_sem] max2_int min2_int max_two min_two max_three min_three max_four min_four   -- for this text's walks alone
set_option linter.unusedVariables false
set_option linter.unusedSimpArgs false

/-! ### cambiumlaw13_DataCut: function 4 -/
def cambiumlaw13_DataCut.j0 : Nat → Int → Int → ByteArray → ByteArray → Bool → Option (Bool)
  | 0, _, _, _, _, _ => none
  | k + 1, x2, x13, x14, x16, x81 => if x81 = true then (some false) else (if x13 < x2 then (some (x14.toList == x16.toList)) else (some (x16.toList == ([0] : List UInt8))))
def cambiumlaw13_DataCut.f (k : Nat) (l0 : List (S54)) (a1 : Int) (a2 : Int) (a3 : Int) : Option (Bool) := (cambiumlaw13_lives.f k).bind fun t281 => (if t281 = true then ((data_Cut.f k l0 a1 a2).bind fun bt282 => (if bt282.2 = 0 then ((item_Apply.f k l0 bt282.1).bind fun bt286 => ((data_Read.f k l0 a1 65536 (Int.tmod a3 65536) 1).bind fun bt290 => ((data_Read.f k bt286.1 a1 65536 (Int.tmod a3 65536) 1).bind fun bt292 => ((data_Cut.f k bt286.1 a1 a2).bind fun bt294 => (if bt286.2 = 0 then (if bt290.2 = 0 then (if bt292.2 = 0 then (if bt294.2 = 0 then (cambiumlaw13_DataCut.j0 k a2 (Int.tmod a3 65536) bt290.1 bt292.1 ((bt294.1.length : Int) != 0)) else (cambiumlaw13_DataCut.j0 k a2 (Int.tmod a3 65536) bt290.1 bt292.1 true)) else (cambiumlaw13_DataCut.j0 k a2 (Int.tmod a3 65536) bt290.1 bt292.1 true)) else (cambiumlaw13_DataCut.j0 k a2 (Int.tmod a3 65536) bt290.1 bt292.1 true)) else (cambiumlaw13_DataCut.j0 k a2 (Int.tmod a3 65536) bt290.1 bt292.1 true)))))) else (some ((bt282.1.length : Int) == 0)))) else (some false))
theorem cambiumlaw13_DataCut.mono_l : ∀ k, (∀ y0 y1 y2 y3 y4, LeO (cambiumlaw13_DataCut.j0 k y0 y1 y2 y3 y4) (cambiumlaw13_DataCut.j0 (k + 1) y0 y1 y2 y3 y4))
  | 0 => fun _ _ _ _ _ r h => by simp [cambiumlaw13_DataCut.j0] at h
  | k + 1 => by
    have ih0 := cambiumlaw13_DataCut.mono_l k
    · intro y0 y1 y2 y3 y4
      unfold cambiumlaw13_DataCut.j0
      repeat' first
      | (with_reducible exact ih0 _ _ _ _ _)
      | (with_reducible exact cambiumlaw13_lives.mono _)
      | (with_reducible exact data_Cut.mono _ _ _ _)
      | (with_reducible exact data_Read.mono _ _ _ _ _ _)
      | (with_reducible exact item_Apply.mono _ _ _)
      | (with_reducible exact LeO.refl _)
      | (with_reducible exact LeO.none _)
      | (with_reducible refine LeO.ite ?_ ?_)
      | (with_reducible refine LeO.bind ?_ (fun _ => ?_))
      | exact ih0 _ _ _ _ _
      | exact cambiumlaw13_lives.mono _
      | exact data_Cut.mono _ _ _ _
      | exact data_Read.mono _ _ _ _ _ _
      | exact item_Apply.mono _ _ _
      | exact LeO.none _
      | refine LeO.ite ?_ ?_
      | refine LeO.bind ?_ (fun _ => ?_)
theorem cambiumlaw13_DataCut.mono : ∀ a0 a1 a2 a3 k, LeO (cambiumlaw13_DataCut.f k a0 a1 a2 a3) (cambiumlaw13_DataCut.f (k + 1) a0 a1 a2 a3) := by
  intro a0 a1 a2 a3 k
  have ih0 := cambiumlaw13_DataCut.mono_l k
  unfold cambiumlaw13_DataCut.f
  repeat' first
      | (with_reducible exact ih0 _ _ _ _ _)
      | (with_reducible exact cambiumlaw13_lives.mono _)
      | (with_reducible exact data_Cut.mono _ _ _ _)
      | (with_reducible exact data_Read.mono _ _ _ _ _ _)
      | (with_reducible exact item_Apply.mono _ _ _)
      | (with_reducible exact LeO.refl _)
      | (with_reducible exact LeO.none _)
      | (with_reducible refine LeO.ite ?_ ?_)
      | (with_reducible refine LeO.bind ?_ (fun _ => ?_))
      | exact ih0 _ _ _ _ _
      | exact cambiumlaw13_lives.mono _
      | exact data_Cut.mono _ _ _ _
      | exact data_Read.mono _ _ _ _ _ _
      | exact item_Apply.mono _ _ _
      | exact LeO.none _
      | refine LeO.ite ?_ ?_
      | refine LeO.bind ?_ (fun _ => ?_)
set_option maxHeartbeats 8000000 in
set_option maxRecDepth 100000 in
theorem cambiumlaw13_DataCut.calls (k : Nat) (A0 : Option Addr) (c0 : Nat) (l0 : List (S54)) (a1 : Int) (a2 : Int) (a3 : Int) (r : Bool) (w : World) (hr0 : Kd.C k54 w A0 l0.length l0) (hc0 : l0.length ≤ c0) (h : cambiumlaw13_DataCut.f k l0 a1 a2 a3 = some r) (hT_ : r = true := by rfl) :
    Calls Tryz.prog 4 #[.slice A0 l0.length c0, .int .u32 a1, .int .u32 a2, .int .u32 a3] w fun e w' => e = .returned (.bool r) ∧ Below w.heap.size w w' := by
  have HT_ := Aside0.mk hT_
  clear hT_
  have HR0 := Aside0.mk hr0
  have HC0 := Aside0.mk hc0
  clear hr0 hc0
  have HB := Aside0.mk (Below.refl w.heap.size w)
  have H : ((cambiumlaw13_lives.f k).bind fun t281 => (if t281 = true then ((data_Cut.f k l0 a1 a2).bind fun bt282 => (if bt282.2 = 0 then ((item_Apply.f k l0 bt282.1).bind fun bt286 => ((data_Read.f k l0 a1 65536 (Int.tmod a3 65536) 1).bind fun bt290 => ((data_Read.f k bt286.1 a1 65536 (Int.tmod a3 65536) 1).bind fun bt292 => ((data_Cut.f k bt286.1 a1 a2).bind fun bt294 => (if bt286.2 = 0 then (if bt290.2 = 0 then (if bt292.2 = 0 then (if bt294.2 = 0 then (cambiumlaw13_DataCut.j0 k a2 (Int.tmod a3 65536) bt290.1 bt292.1 ((bt294.1.length : Int) != 0)) else (cambiumlaw13_DataCut.j0 k a2 (Int.tmod a3 65536) bt290.1 bt292.1 true)) else (cambiumlaw13_DataCut.j0 k a2 (Int.tmod a3 65536) bt290.1 bt292.1 true)) else (cambiumlaw13_DataCut.j0 k a2 (Int.tmod a3 65536) bt290.1 bt292.1 true)) else (cambiumlaw13_DataCut.j0 k a2 (Int.tmod a3 65536) bt290.1 bt292.1 true)))))) else (some ((bt282.1.length : Int) == 0)))) else (some false))) = some r := h
  clear h
  replace H := Option.bind_eq_some_iff.mp H
  obtain ⟨t281, A50, H⟩ := H
  replace H : (if t281 = true then ((data_Cut.f k l0 a1 a2).bind fun bt282 => (if bt282.2 = 0 then ((item_Apply.f k l0 bt282.1).bind fun bt286 => ((data_Read.f k l0 a1 65536 (Int.tmod a3 65536) 1).bind fun bt290 => ((data_Read.f k bt286.1 a1 65536 (Int.tmod a3 65536) 1).bind fun bt292 => ((data_Cut.f k bt286.1 a1 a2).bind fun bt294 => (if bt286.2 = 0 then (if bt290.2 = 0 then (if bt292.2 = 0 then (if bt294.2 = 0 then (cambiumlaw13_DataCut.j0 k a2 (Int.tmod a3 65536) bt290.1 bt292.1 ((bt294.1.length : Int) != 0)) else (cambiumlaw13_DataCut.j0 k a2 (Int.tmod a3 65536) bt290.1 bt292.1 true)) else (cambiumlaw13_DataCut.j0 k a2 (Int.tmod a3 65536) bt290.1 bt292.1 true)) else (cambiumlaw13_DataCut.j0 k a2 (Int.tmod a3 65536) bt290.1 bt292.1 true)) else (cambiumlaw13_DataCut.j0 k a2 (Int.tmod a3 65536) bt290.1 bt292.1 true)))))) else (some ((bt282.1.length : Int) == 0)))) else (some false)) = some r := H
  have A5 := Aside0.mk A50
  clear A50
  by_cases c6 : t281 = true
  · subst c6
    have H1 : ((data_Cut.f k l0 a1 a2).bind fun bt282 => (if bt282.2 = 0 then ((item_Apply.f k l0 bt282.1).bind fun bt286 => ((data_Read.f k l0 a1 65536 (Int.tmod a3 65536) 1).bind fun bt290 => ((data_Read.f k bt286.1 a1 65536 (Int.tmod a3 65536) 1).bind fun bt292 => ((data_Cut.f k bt286.1 a1 a2).bind fun bt294 => (if bt286.2 = 0 then (if bt290.2 = 0 then (if bt292.2 = 0 then (if bt294.2 = 0 then (cambiumlaw13_DataCut.j0 k a2 (Int.tmod a3 65536) bt290.1 bt292.1 ((bt294.1.length : Int) != 0)) else (cambiumlaw13_DataCut.j0 k a2 (Int.tmod a3 65536) bt290.1 bt292.1 true)) else (cambiumlaw13_DataCut.j0 k a2 (Int.tmod a3 65536) bt290.1 bt292.1 true)) else (cambiumlaw13_DataCut.j0 k a2 (Int.tmod a3 65536) bt290.1 bt292.1 true)) else (cambiumlaw13_DataCut.j0 k a2 (Int.tmod a3 65536) bt290.1 bt292.1 true)))))) else (some ((bt282.1.length : Int) == 0)))) = some r := by rw [if_pos rfl] at H; exact H
    clear H
    have H := H1
    clear H1
    replace H := Option.bind_eq_some_iff.mp H
    obtain ⟨⟨t282, t283⟩, A70, H⟩ := H
    replace H : (if t283 = 0 then ((item_Apply.f k l0 t282).bind fun bt286 => ((data_Read.f k l0 a1 65536 (Int.tmod a3 65536) 1).bind fun bt290 => ((data_Read.f k bt286.1 a1 65536 (Int.tmod a3 65536) 1).bind fun bt292 => ((data_Cut.f k bt286.1 a1 a2).bind fun bt294 => (if bt286.2 = 0 then (if bt290.2 = 0 then (if bt292.2 = 0 then (if bt294.2 = 0 then (cambiumlaw13_DataCut.j0 k a2 (Int.tmod a3 65536) bt290.1 bt292.1 ((bt294.1.length : Int) != 0)) else (cambiumlaw13_DataCut.j0 k a2 (Int.tmod a3 65536) bt290.1 bt292.1 true)) else (cambiumlaw13_DataCut.j0 k a2 (Int.tmod a3 65536) bt290.1 bt292.1 true)) else (cambiumlaw13_DataCut.j0 k a2 (Int.tmod a3 65536) bt290.1 bt292.1 true)) else (cambiumlaw13_DataCut.j0 k a2 (Int.tmod a3 65536) bt290.1 bt292.1 true)))))) else (some ((t282.length : Int) == 0))) = some r := H
    have A7 := Aside0.mk A70
    clear A70
    by_cases c8 : t283 = 0
    · rw [if_pos c8] at H
      have c8b0 : (t283 == 0) = true := beq_iff_eq.mpr c8
      have c8b1 : (t283 != 0) = false := bne_eq_false_iff_eq.mpr c8
      clear c8
      replace H := Option.bind_eq_some_iff.mp H
      obtain ⟨⟨t286, t287⟩, A90, H⟩ := H
      replace H : ((data_Read.f k l0 a1 65536 (Int.tmod a3 65536) 1).bind fun bt290 => ((data_Read.f k t286 a1 65536 (Int.tmod a3 65536) 1).bind fun bt292 => ((data_Cut.f k t286 a1 a2).bind fun bt294 => (if t287 = 0 then (if bt290.2 = 0 then (if bt292.2 = 0 then (if bt294.2 = 0 then (cambiumlaw13_DataCut.j0 k a2 (Int.tmod a3 65536) bt290.1 bt292.1 ((bt294.1.length : Int) != 0)) else (cambiumlaw13_DataCut.j0 k a2 (Int.tmod a3 65536) bt290.1 bt292.1 true)) else (cambiumlaw13_DataCut.j0 k a2 (Int.tmod a3 65536) bt290.1 bt292.1 true)) else (cambiumlaw13_DataCut.j0 k a2 (Int.tmod a3 65536) bt290.1 bt292.1 true)) else (cambiumlaw13_DataCut.j0 k a2 (Int.tmod a3 65536) bt290.1 bt292.1 true))))) = some r := H
      have A9 := Aside0.mk A90
      clear A90
      replace H := Option.bind_eq_some_iff.mp H
      obtain ⟨⟨t290, t291⟩, A100, H⟩ := H
      replace H : ((data_Read.f k t286 a1 65536 (Int.tmod a3 65536) 1).bind fun bt292 => ((data_Cut.f k t286 a1 a2).bind fun bt294 => (if t287 = 0 then (if t291 = 0 then (if bt292.2 = 0 then (if bt294.2 = 0 then (cambiumlaw13_DataCut.j0 k a2 (Int.tmod a3 65536) t290 bt292.1 ((bt294.1.length : Int) != 0)) else (cambiumlaw13_DataCut.j0 k a2 (Int.tmod a3 65536) t290 bt292.1 true)) else (cambiumlaw13_DataCut.j0 k a2 (Int.tmod a3 65536) t290 bt292.1 true)) else (cambiumlaw13_DataCut.j0 k a2 (Int.tmod a3 65536) t290 bt292.1 true)) else (cambiumlaw13_DataCut.j0 k a2 (Int.tmod a3 65536) t290 bt292.1 true)))) = some r := H
      have A10 := Aside0.mk A100
      clear A100
      replace H := Option.bind_eq_some_iff.mp H
      obtain ⟨⟨t292, t293⟩, A110, H⟩ := H
      replace H : ((data_Cut.f k t286 a1 a2).bind fun bt294 => (if t287 = 0 then (if t291 = 0 then (if t293 = 0 then (if bt294.2 = 0 then (cambiumlaw13_DataCut.j0 k a2 (Int.tmod a3 65536) t290 t292 ((bt294.1.length : Int) != 0)) else (cambiumlaw13_DataCut.j0 k a2 (Int.tmod a3 65536) t290 t292 true)) else (cambiumlaw13_DataCut.j0 k a2 (Int.tmod a3 65536) t290 t292 true)) else (cambiumlaw13_DataCut.j0 k a2 (Int.tmod a3 65536) t290 t292 true)) else (cambiumlaw13_DataCut.j0 k a2 (Int.tmod a3 65536) t290 t292 true))) = some r := H
      have A11 := Aside0.mk A110
      clear A110
      replace H := Option.bind_eq_some_iff.mp H
      obtain ⟨⟨t294, t295⟩, A120, H⟩ := H
      replace H : (if t287 = 0 then (if t291 = 0 then (if t293 = 0 then (if t295 = 0 then (cambiumlaw13_DataCut.j0 k a2 (Int.tmod a3 65536) t290 t292 ((t294.length : Int) != 0)) else (cambiumlaw13_DataCut.j0 k a2 (Int.tmod a3 65536) t290 t292 true)) else (cambiumlaw13_DataCut.j0 k a2 (Int.tmod a3 65536) t290 t292 true)) else (cambiumlaw13_DataCut.j0 k a2 (Int.tmod a3 65536) t290 t292 true)) else (cambiumlaw13_DataCut.j0 k a2 (Int.tmod a3 65536) t290 t292 true)) = some r := H
      have A12 := Aside0.mk A120
      clear A120
      have HC13 := Aside0.mk H
      clear H
      go_enter Tryz.func4, Tryz.ntmps4
      go_upto_region 11 with (first | ((with_reducible refine gate_callee (f := 8) rfl ?_); refine gl_ (some 20) Tryz.func8 #[] ?_; (with_reducible refine (cambiumlaw13_lives.calls k  true _ A5.out).mono ?_); rintro e w14 ⟨rfl, hb⟩; refine ⟨_, rfl, ?_⟩; have n0_ := Aside0.mk (below_step bel_ hb); clear HB; have HB := n0_; clear n0_; (try clear hb); (try clear hb2); (try clear hk); (try clear hi)) | ((with_reducible refine gate_callee (f := 12) rfl ?_); refine gl_ (some 26) Tryz.func12 #[.slice A0 l0.length c0, .int .u32 a1, .int .u32 a2] ?_; (with_reducible refine (data_Cut.calls k _ _ l0 a1 a2 t282 t283 _ ?side1 ?side2 A7.out).mono ?_); (case side1 => exact cb_ HR0); (case side2 => exact HC0.out); rintro e w15 ⟨v284, rfl, ho0, hb⟩; refine ⟨_, rfl, ?_⟩; have n0_ := Aside0.mk (Kd.R_lower ho0 (below_size bel_)); have n1_ := Aside0.mk (below_step bel_ hb); clear HB; have HO285 := n0_; have HB := n1_; clear n0_ n1_; (try clear hb); (try clear hb2); (try clear hk); (try clear hi); (try clear ho0); obtain ⟨Ao16, co16, eo16⟩ := Kd.R_slice HO285.out; subst eo16) | ((with_reducible refine gate_callee (f := 10) rfl ?_); refine gl_ (some 37) Tryz.func10 #[.slice A0 l0.length c0, .slice Ao16 t282.length co16] ?_; (with_reducible refine (item_Apply.calls k _ _ l0 _ _ t282 t286 t287 _ ?side1 ?side2 ?side3 ?side4 A9.out).mono ?_); (case side1 => exact cb_ HR0); (case side2 => exact HC0.out); (case side3 => exact cr_ HO285); (case side4 => exact (Kd.R_reads' HO285.out).2.1); rintro e w17 ⟨v288, rfl, ho0, hb⟩; refine ⟨_, rfl, ?_⟩; have n0_ := Aside0.mk (Kd.R_below (ra_ HO285) hb); have n1_ := Aside0.mk (Kd.R_lower ho0 (below_size bel_)); have n2_ := Aside0.mk (below_step bel_ hb); clear HO285; clear HB; have HO285 := n0_; have HO289 := n1_; have HB := n2_; clear n0_ n1_ n2_; (try clear hb); (try clear hb2); (try clear hk); (try clear hi); (try clear ho0)) | ((with_reducible refine gate_callee (f := 11) rfl ?_); refine gl_ (some 46) Tryz.func11 #[.slice A0 l0.length c0, .int .u32 a1, .int .u32 65536, .int .u32 (Int.tmod a3 65536), .int .u32 1] ?_; (with_reducible refine (data_Read.calls k _ _ l0 a1 65536 (Int.tmod a3 65536) 1 t290 t291 _ ?side1 ?side2 A10.out).mono ?_); (case side1 => exact cb_ HR0); (case side2 => exact HC0.out); rintro e w18 ⟨rfl, hb⟩; refine ⟨_, rfl, ?_⟩; have n0_ := Aside0.mk (Kd.R_below (ra_ HO285) hb); have n1_ := Aside0.mk (Kd.R_below (ra_ HO289) hb); have n2_ := Aside0.mk (below_step bel_ hb); clear HO285; clear HO289; clear HB; have HO285 := n0_; have HO289 := n1_; have HB := n2_; clear n0_ n1_ n2_; (try clear hb); (try clear hb2); (try clear hk); (try clear hi); obtain ⟨Ao19, co19, eo19⟩ := Kd.R_slice HO289.out; subst eo19) | ((with_reducible refine gate_callee (f := 11) rfl ?_); refine gl_ (some 53) Tryz.func11 #[.slice Ao19 t286.length co19, .int .u32 a1, .int .u32 65536, .int .u32 (Int.tmod a3 65536), .int .u32 1] ?_; (with_reducible refine (data_Read.calls k _ _ t286 a1 65536 (Int.tmod a3 65536) 1 t292 t293 _ ?side1 ?side2 A11.out).mono ?_); (case side1 => exact cr_ HO289); (case side2 => exact (Kd.R_reads' HO289.out).2.1); rintro e w20 ⟨rfl, hb⟩; refine ⟨_, rfl, ?_⟩; have n0_ := Aside0.mk (Kd.R_below (ra_ HO285) hb); have n1_ := Aside0.mk (Kd.R_below (ra_ HO289) hb); have n2_ := Aside0.mk (below_step bel_ hb); clear HO285; clear HO289; clear HB; have HO285 := n0_; have HO289 := n1_; have HB := n2_; clear n0_ n1_ n2_; (try clear hb); (try clear hb2); (try clear hk); (try clear hi)) | ((with_reducible refine gate_callee (f := 12) rfl ?_); refine gl_ (some 60) Tryz.func12 #[.slice Ao19 t286.length co19, .int .u32 a1, .int .u32 a2] ?_; (with_reducible refine (data_Cut.calls k _ _ t286 a1 a2 t294 t295 _ ?side1 ?side2 A12.out).mono ?_); (case side1 => exact cr_ HO289); (case side2 => exact (Kd.R_reads' HO289.out).2.1); rintro e w21 ⟨v296, rfl, ho0, hb⟩; refine ⟨_, rfl, ?_⟩; have n0_ := Aside0.mk (Kd.R_elder' (ra_ HO285) (Kd.R_base ho0) hb); have n1_ := Aside0.mk (Kd.R_below (ra_ HO289) hb); have n2_ := Aside0.mk (Kd.R_lower (Kd.R_new' ho0 (Kd.R_lt (ra_ HO285))) (below_size bel_)); have n3_ := Aside0.mk (below_step bel_ hb); clear HO285; clear HO289; clear HB; have HO285 := n0_; have HO289 := n1_; have HO297 := n2_; have HB := n3_; clear n0_ n1_ n2_ n3_; (try clear hb); (try clear hb2); (try clear hk); (try clear hi); (try clear ho0)))
      (try simp only [Act.put, List.setIfInBounds_toArray, List.set_cons_zero, List.set_cons_succ])
      go_cut [81] (fun v81 wc => ∃ (kq : Nat) (x81_12 : Bool), v81 = .bool x81_12 ∧ Aside0 (cambiumlaw13_DataCut.j0 kq a2 (Int.tmod a3 65536) t290 t292 x81_12 = some r) ∧ Aside0 (kq ≤ k) ∧ Aside0 (Below w.heap.size w wc))
      case first =>
        have H := HC13.out
        clear HC13
        by_cases c22 : t287 = 0
        · rw [if_pos c22] at H
          have c22b0 : (t287 == 0) = true := beq_iff_eq.mpr c22
          have c22b1 : (t287 != 0) = false := bne_eq_false_iff_eq.mpr c22
          clear c22
          (first | rw [c22b0] | (simp only [i64_w, i32_w]; rw [c22b0]) | skip)
          by_cases c23 : t291 = 0
          · rw [if_pos c23] at H
            have c23b0 : (t291 == 0) = true := beq_iff_eq.mpr c23
            have c23b1 : (t291 != 0) = false := bne_eq_false_iff_eq.mpr c23
            clear c23
            by_cases c24 : t293 = 0
            · rw [if_pos c24] at H
              have c24b0 : (t293 == 0) = true := beq_iff_eq.mpr c24
              have c24b1 : (t293 != 0) = false := bne_eq_false_iff_eq.mpr c24
              clear c24
              by_cases c25 : t295 = 0
              · rw [if_pos c25] at H
                have c25b0 : (t295 == 0) = true := beq_iff_eq.mpr c25
                have c25b1 : (t295 != 0) = false := bne_eq_false_iff_eq.mpr c25
                clear c25
                have H' := Aside0.mk H
                clear H
                obtain ⟨Ao26, co26, eo26⟩ := Kd.R_slice HO297.out
                subst eo26
                go_wp2
                go_meet
                case rel => exact ⟨_, (((t294.length : Int) != 0)), (by first | rfl | (simp; done) | (simp [*]; done)), H', ⟨by first | omega | exact Nat.le_refl _⟩, ⟨bel_⟩⟩
              rw [if_neg c25] at H
              have c25b0 : (t295 == 0) = false := beq_eq_false_iff_ne.mpr c25
              have c25b1 : (t295 != 0) = true := bne_iff_ne.mpr c25
              have H' := Aside0.mk H
              clear H
              go_wp2
              go_meet
              case rel => exact ⟨_, (true), (by first | rfl | (simp; done) | (simp [*]; done)), H', ⟨by first | omega | exact Nat.le_refl _⟩, ⟨bel_⟩⟩
            rw [if_neg c24] at H
            have c24b0 : (t293 == 0) = false := beq_eq_false_iff_ne.mpr c24
            have c24b1 : (t293 != 0) = true := bne_iff_ne.mpr c24
            have H' := Aside0.mk H
            clear H
            go_wp2
            go_meet
            case rel => exact ⟨_, (true), (by first | rfl | (simp; done) | (simp [*]; done)), H', ⟨by first | omega | exact Nat.le_refl _⟩, ⟨bel_⟩⟩
          rw [if_neg c23] at H
          have c23b0 : (t291 == 0) = false := beq_eq_false_iff_ne.mpr c23
          have c23b1 : (t291 != 0) = true := bne_iff_ne.mpr c23
          have H' := Aside0.mk H
          clear H
          go_wp2
          go_meet
          case rel => exact ⟨_, (true), (by first | rfl | (simp; done) | (simp [*]; done)), H', ⟨by first | omega | exact Nat.le_refl _⟩, ⟨bel_⟩⟩
        rw [if_neg c22] at H
        have c22b0 : (t287 == 0) = false := beq_eq_false_iff_ne.mpr c22
        have c22b1 : (t287 != 0) = true := bne_iff_ne.mpr c22
        (first | rw [c22b0] | (simp only [i64_w, i32_w]; rw [c22b0]) | skip)
        have H' := Aside0.mk H
        clear H
        go_wp2
        go_meet
        case rel => exact ⟨_, (true), (by first | rfl | (simp; done) | (simp [*]; done)), H', ⟨by first | omega | exact Nat.le_refl _⟩, ⟨bel_⟩⟩
      case rest =>
        clear HC13
        try clear c1
        try clear c2
        try clear p2
        try clear c4
        try clear c6
        try clear c8
        try clear c8b0
        try clear c8b1
        try clear c10
        try clear c11
        try clear c12
        try clear c22
        try clear c22b0
        try clear c22b1
        try clear c23
        try clear c23b0
        try clear c23b1
        try clear c24
        try clear c24b0
        try clear c24b1
        try clear c25
        try clear c25b0
        try clear c25b1
        obtain ⟨kq, x81_12, rfl, HA, HJ12, HB⟩ := hcut
        cases kq with
        | zero => exact absurd HA.out (by simp [cambiumlaw13_DataCut.j0])
        | succ kj12 =>
          have H := HA.out
          clear HA
          simp only [cambiumlaw13_DataCut.j0] at H
          by_cases c27 : x81_12 = true
          · subst c27
            have H1 : (some false) = some r := by rw [if_pos rfl] at H; exact H
            clear H
            have H := H1
            clear H1
            exact absurd ((Option.some.inj H).trans HT_.out) (by simp)
          replace c27 := Bool.eq_false_iff.mpr c27
          subst c27
          have H1 : (if (Int.tmod a3 65536) < a2 then (some (t290.toList == t292.toList)) else (some (t292.toList == ([0] : List UInt8)))) = some r := by rw [if_neg (show ¬ (false = true) by decide)] at H; exact H
          clear H
          have H := H1
          clear H1
          by_cases c28 : (Int.tmod a3 65536) < a2
          · rw [if_pos c28] at H
            have c28b0 : decide ((Int.tmod a3 65536) < a2) = true := decide_eq_true c28
            clear c28
            obtain rfl := Option.some.inj H
            go_wp2
            go_ret
            exact ⟨by first | rfl | (simp [errW_none, errW_some] <;> rfl) | (simp [*, errW_none, errW_some] <;> rfl), bel_⟩
          rw [if_neg c28] at H
          have c28b0 : decide ((Int.tmod a3 65536) < a2) = false := decide_eq_false c28
          clear c28
          obtain rfl := Option.some.inj H
          go_wp2
          go_ret
          exact ⟨by first | rfl | (simp [errW_none, errW_some] <;> rfl) | (simp [*, errW_none, errW_some] <;> rfl), bel_⟩
    rw [if_neg c8] at H
    have c8b0 : (t283 == 0) = false := beq_eq_false_iff_ne.mpr c8
    have c8b1 : (t283 != 0) = true := bne_iff_ne.mpr c8
    obtain rfl := Option.some.inj H
    go_enter Tryz.func4, Tryz.ntmps4
    go_wp2_with (first | ((with_reducible refine gate_callee (f := 8) rfl ?_); refine gl_ (some 20) Tryz.func8 #[] ?_; (with_reducible refine (cambiumlaw13_lives.calls k  true _ A5.out).mono ?_); rintro e w29 ⟨rfl, hb⟩; refine ⟨_, rfl, ?_⟩; replace HB := hb_ hb; (try clear hb); (try clear hb2); (try clear hk); (try clear hi)) | ((with_reducible refine gate_callee (f := 12) rfl ?_); refine gl_ (some 26) Tryz.func12 #[.slice A0 l0.length c0, .int .u32 a1, .int .u32 a2] ?_; (with_reducible refine (data_Cut.calls k _ _ l0 a1 a2 t282 t283 _ ?side1 ?side2 A7.out).mono ?_); (case side1 => exact cb_ HR0); (case side2 => exact HC0.out); rintro e w30 ⟨v284, rfl, ho0, hb⟩; refine ⟨_, rfl, ?_⟩; have HO285 := rl_ ho0; replace HB := hb_ hb; (try clear hb); (try clear hb2); (try clear hk); (try clear hi); (try clear ho0); obtain ⟨Ao31, co31, eo31⟩ := Kd.R_slice HO285.out; subst eo31))
    go_ret
    exact ⟨by first | rfl | (simp [errW_none, errW_some] <;> rfl) | (simp [*, errW_none, errW_some] <;> rfl), bel_⟩
  replace c6 := Bool.eq_false_iff.mpr c6
  subst c6
  have H1 : (some false) = some r := by rw [if_neg (show ¬ (false = true) by decide)] at H; exact H
  clear H
  have H := H1
  clear H1
  exact absurd ((Option.some.inj H).trans HT_.out) (by simp)

end Go.Proofs.YtnngbhdofgodiaaGreatDoor.Z
end

section
/- DataCut, over lists: the law's function answers true. -/
namespace Go.Proofs.YtnngbhdofgodiaaGreatDoor.Pure
open Go.RowKit Go.Proofs.YtnngbhdofgodiaaGreatDoor Go.Proofs.YtnngbhdofgodiaaGreatDoor.Z Go.Proofs.YtnngbhdofgodiaaGreatDoorW.PrintWords Go.Proofs.YtnngbhdofgodiaaGreatDoor.PM
set_option linter.unusedVariables false
set_option linter.unusedSimpArgs false
theorem DataCut : ∀ (l0 : List (S54)) (a1 : Int) (a2 : Int) (a3 : Int), l0.length ≤ maxLen → (∀ x ∈ l0, Z.G54 x) → l0.length * 32 ≤ 140737488351232 → (Lit.int .u32 a1).wf = true → (Lit.int .u32 a2).wf = true → (Lit.int .u32 a3).wf = true → ∃ k, Z.cambiumlaw13_DataCut.f k l0 a1 a2 a3 = some true := by
  intro l ino len at_ _ _ hl w1 w2 w3
  have hi := wf32 w1
  have hn := wf32 w2
  have hat := wf32 w3
  refine Ev.rounds ?_
  unfold cambiumlaw13_DataCut.f
  refine Ev.bind lives_f (Ev.ifp rfl ?_)
  by_cases hok : okL l = true ∧ ino ≠ 0 ∧ len ≤ 65536
  case neg =>
    obtain ⟨e, h1, h2⟩ := cutSS_bad hok
    exact Ev.bind (Ev.val (data_Cut_f l (by omega) hi hn) h1) (Ev.ifn h2 (Ev.const rfl))
  case pos =>
    obtain ⟨hk, h0, hb⟩ := hok
    have hi' : 0 < ino ∧ ino < 4294967296 := ⟨by omega, hi.2⟩
    have hoc := cuC_okC hk hi' len
    have hgr := apl_len_in (cuC l ino len) l hk hoc (cuC_pair hk hi' len) (cuC_in hk hi' len)
    have hcl := cuC_len hk hi' len
    have hml := hgr (cuC l ino len).length
    rw [List.take_length] at hml
    have hB := fun (q : Nat) (hq : q < 65536) => cuC_byte hk hi' len hq
    have hag := cuC_again hk hi' len
    have hmk := cuC_okL hk hi' len
    refine Ev.bind (Ev.val (data_Cut_f l (by omega) hi hn) (cutSS_ok hk h0 hb)) (Ev.ifp rfl ?_)
    refine Ev.bind (Ev.val (itApplyIn l (cuC l ino len) (by omega) (fun t => by have := hgr t; omega)) (aplS_ok hk hoc)) ?_
    dsimp only
    generalize apl l (cuC l ino len) = m at hB hag hml hmk
    have hkk : Int.tmod at_ 65536 = at_ % 65536 := Int.tmod_eq_emod_of_nonneg hat.1
    obtain ⟨k, hkd⟩ : ∃ k, k = at_ % 65536 := ⟨_, rfl⟩
    have hk2 : 0 ≤ k ∧ k < 65536 := by omega
    rw [hkk, ← hkd]
    refine Ev.bind (Ev.val (data_Read_f l (by omega) hi (by decide) ⟨hk2.1, by omega⟩ ⟨by decide, by decide⟩) (readS_one hk h0 hk2)) ?_
    refine Ev.bind (Ev.val (data_Read_f m (by omega) hi (by decide) ⟨hk2.1, by omega⟩ ⟨by decide, by decide⟩) (readS_one hmk h0 hk2)) ?_
    refine Ev.bind (Ev.val (data_Cut_f m (by omega) hi hn) ((cutSS_ok hmk h0 hb).trans (by rw [hag]))) ?_
    refine Ev.ifp rfl (Ev.ifp rfl (Ev.ifp rfl (Ev.ifp rfl (Ev.step (fun n => by rw [cambiumlaw13_DataCut.j0]) (Ev.ifn (by decide) ?_)))))
    have hq := hB k.toNat (by omega)
    refine Ev.ite (fun hlt => Ev.const ?_) (fun hge => Ev.const ?_)
    · rw [hq, if_pos (by omega)]
      simp
    · rw [hq, if_neg (by omega), ba_toList]
      rfl
end Go.Proofs.YtnngbhdofgodiaaGreatDoor.Pure
end

section
/- cambium/cambiumlaw13.DataCut: at every input the law's function returns true, and each argument reads afterwards as before. Conditions: none beyond the row's own. Printed by a program of this session (mp.py) over the pure statement in YtnngbhdofgodiaaGreatDoorPureDataCut. -/
namespace Go.Proofs.YtnngbhdofgodiaaGreatDoor.dataCut
open Go.ChangeShapes Go.WideShapes Go.ChangeAt Go.RowKit
open Go.ChangeMaps (open_string shut_string)
set_option linter.unusedVariables false
set_option linter.unusedSimpArgs false
theorem own : ownKnob Tryz.prog.godebug = none := by kernel_rfl
theorem laidOut : laidOutB Tryz.prog = true := by kernel_rfl
def lay0 : Obj → Obj
  | .cells _ t frozen => .cells (((Pinned.numbers IntKind.u8 Pinned.utf8FirstZ : List (DataW Unit)).map (fun x => match x with | .lit (.int k v) => Value.int k v | _ => .int .u8 0)).toArray) t frozen
  | o => o
def lay1 : Obj → Obj
  | .cells _ t frozen => .cells #[.int .u8 128, .int .u8 191, .int .u8 160, .int .u8 191, .int .u8 128, .int .u8 159, .int .u8 144, .int .u8 191, .int .u8 128, .int .u8 143, .int .u8 0, .int .u8 0, .int .u8 0, .int .u8 0, .int .u8 0, .int .u8 0, .int .u8 0, .int .u8 0, .int .u8 0, .int .u8 0, .int .u8 0, .int .u8 0, .int .u8 0, .int .u8 0, .int .u8 0, .int .u8 0, .int .u8 0, .int .u8 0, .int .u8 0, .int .u8 0, .int .u8 0, .int .u8 0] t frozen
  | o => o
noncomputable def laidWorld (os : Os) : World :=
  { World.holding Tryz.prog os ⟨#[], #[], []⟩ with heap := ((World.holding Tryz.prog os ⟨#[], #[], []⟩).heap.modify 0 lay0).modify 1 lay1 }
theorem laid_met (os : Os) : laidMet Tryz.prog Rows.dataCutRow.laid ((laidWorld os).forCall (fun _ _ => 0) ⟨#[], #[.slice none 0 0, .int .u32 0, .int .u32 0, .int .u32 0], []⟩).memory :=
  laidMet_of_run' 8 (by kernel_rfl) (by kernel_rfl)
theorem reads (os : Os) {H : Type} (enc : TypeId × Value → H) : ∃ places, DataW.whole enc Tryz.prog ((laidWorld os).forCall (fun _ _ => 0) ⟨#[], #[.slice none 0 0, .int .u32 0, .int .u32 0, .int .u32 0], []⟩).memory Tryz.f4.params.toList Rows.dataCutSpec.vars false (#[.slice none 0 0, .int .u32 0, .int .u32 0, .int .u32 0] : Array Value).toList 8 = some ([.nil, .lit (.int .u32 0), .lit (.int .u32 0), .lit (.int .u32 0)], [], places) :=
  ⟨[], by kernel_rfl⟩
set_option maxHeartbeats 1000000 in
set_option maxRecDepth 100000 in
theorem lifted (os : Os) (started : os.Started) (H : Type) (enc : TypeId × Value → H) (F : Stop.Interp) :
    ReturnsInHanded {} Tryz.checked os 4 .any ((OpenSpec.ofChange Rows.dataCutSpec).preRow enc Tryz.prog Tryz.f4 Rows.dataCutRow.domain false Rows.dataCutRow.laid) (((OpenSpec.ofChange Rows.dataCutSpec).at F).post enc Tryz.prog Tryz.f4 false true false false) := by
  obtain ⟨places, hx⟩ := reads os enc
  refine returnsInHanded_of_row (C := Tryz.checked) (s := OpenSpec.ofChange Rows.dataCutSpec) own started (by kernel_rfl) Tryz.func4
    (witness_row_at (enc := enc) (C := Tryz.checked) false (laidWorld os) #[.slice none 0 0, .int .u32 0, .int .u32 0, .int .u32 0] rfl (by kernel_rfl) (by kernel_rfl) (by kernel_rfl)
      (OpenSpec.preRow_of_cond 8 hx (by kernel_rfl) (fun k hk => by cases hk) (by kernel_rfl) (laid_met os))) ?_
  intro W base args ds gs before hval0 hW hcn0_ hcnd hwz_ _ _ _
  have hsz : (DataW.weightsEach Tryz.prog (Tryz.f4.params.toList ++ Rows.dataCutSpec.plain.varTypes Tryz.prog) (ds ++ gs)).all (· ≤ reachBytes) = true := hwz_
  have hval : ∀ (j : Nat) t v, Tryz.f4.params[j]? = some t → args[j]? = some v → Value.okWide Tryz.prog W .any base t v := hval0
  have hW' := hW
  obtain ⟨p, q, hA0, hV, rfl, hfz, hnd⟩ := hW
  have hA : DataW.TrodAll enc Tryz.prog W 0 (fun _ => true) true Tryz.f4.params.toList args.toList ds p := hA0
  rw [Tryz.params4] at hA hval hsz
  obtain ⟨v0, vs0, d0, ds0, p0, q0, hargs, rfl, rfl, h0, r0⟩ := trodAll_cons hA
  obtain ⟨v1, vs1, d1, ds1, p1, q1, rfl, rfl, rfl, h1, r1⟩ := trodAll_cons r0
  obtain ⟨v2, vs2, d2, ds2, p2, q2, rfl, rfl, rfl, h2, r2⟩ := trodAll_cons r1
  obtain ⟨v3, vs3, d3, ds3, p3, q3, rfl, rfl, rfl, h3, r3⟩ := trodAll_cons r2
  obtain ⟨rfl, rfl, rfl⟩ := trodAll_nil r3
  obtain rfl : args = #[v0, v1, v2, v3] := by cases args; simp_all
  obtain ⟨rfl, rfl⟩ := trodVars_none hV
  have k0 := h0
  have lt0 : ∀ x ∈ p0, x.block < W.heap.size := by obtain ⟨m, hm⟩ := k0; exact DataW.trod_lt m _ _ _ hm
  obtain ⟨a0, len0, cap0, rfl⟩ := okWide_slice Tryz.underlying22 (hval 0 22 v0 rfl rfl)
  obtain ⟨fuel0, hf0⟩ := h0
  obtain ⟨A0, c0, l0, hcs0, hlc0, hcm0, hC0, hG0, hB0, hx0⟩ := Z.Opens.row Tryz.underlying22 Z.opens54 (of_decide_eq_true (by kernel_rfl)) hf0
  simp only [Value.cells, List.cons.injEq, Value.slice.injEq, and_true] at hcs0
  obtain ⟨rfl, rfl, rfl⟩ := hcs0
  have hlm0 : l0.length ≤ maxLen := Nat.le_trans hlc0 hcm0
  have hsz0 : l0.length * 32 ≤ 140737488351232 := Z.sized_row hsz (j := 0) (t := 22) rfl rfl Tryz.underlying22 (by kernel_rfl) hx0
  have k1 := h1
  have lt1 : ∀ x ∈ p1, x.block < W.heap.size := by obtain ⟨m, hm⟩ := k1; exact DataW.trod_lt m _ _ _ hm
  obtain ⟨a1, rfl, rfl, rfl, w1⟩ := open_int Tryz.underlying23 (hval 1 23 v1 rfl rfl) h1
  have k2 := h2
  have lt2 : ∀ x ∈ p2, x.block < W.heap.size := by obtain ⟨m, hm⟩ := k2; exact DataW.trod_lt m _ _ _ hm
  obtain ⟨a2, rfl, rfl, rfl, w2⟩ := open_int Tryz.underlying23 (hval 2 23 v2 rfl rfl) h2
  have k3 := h3
  have lt3 : ∀ x ∈ p3, x.block < W.heap.size := by obtain ⟨m, hm⟩ := k3; exact DataW.trod_lt m _ _ _ hm
  obtain ⟨a3, rfl, rfl, rfl, w3⟩ := open_int Tryz.underlying23 (hval 3 23 v3 rfl rfl) h3
  have hP := Pure.DataCut l0 a1 a2 a3 hlm0 hG0 hsz0 w1 w2 w3
  obtain ⟨k, hk⟩ := hP
  refine (Z.cambiumlaw13_DataCut.calls k _ _ l0 a1 a2 a3 true W hC0 hlc0 hk).mono fun e W' ⟨he, bel0⟩ => ?_
  have bel : Below W.heap.size W W' := bel0
  subst he
  exact ⟨_, rfl, _, _, _, [], _, [], hW', trodAll_mk1 (shut_bool Tryz.underlying4 _), (trodAll_cons_mk (Below.trod laidOut (by kernel_rfl) (of_decide_eq_true (by kernel_rfl)) k0 bel lt0) (trodAll_cons_mk (Below.trod laidOut (by kernel_rfl) (of_decide_eq_true (by kernel_rfl)) k1 bel lt1) (trodAll_cons_mk (Below.trod laidOut (by kernel_rfl) (of_decide_eq_true (by kernel_rfl)) k2 bel lt2) (trodAll_cons_mk (Below.trod laidOut (by kernel_rfl) (of_decide_eq_true (by kernel_rfl)) k3 bel lt3) trodAll_mk0)))), rfl, bel.frame _, fun h => by cases h⟩
theorem over : Rows.DataCutSaid :=
  OpenClaim.holds_of_cond 4 Tryz.f4 rfl rfl rfl rfl rfl rfl rfl ⟨rfl, rfl, rfl, rfl, rfl⟩ rfl rfl rfl rfl rfl (by kernel_rfl) Tryz.func4 (by kernel_rfl)
    (of_decide_eq_true (by kernel_rfl)) (by unfold Func.isWrapper; first | (rw [if_pos (by decide +kernel)]; kernel_rfl) | (rw [if_neg (by decide +kernel)]; exact ⟨rfl, rfl⟩))
    (fun os started H enc _ F => by rw [OpenClaim.pre_eq_preRow]; exact lifted os started H enc F)
theorem plain (f : FuncId) (fn : Func) (hf : Tryz.pinned.checked.prog.funcNamed "cambium/cambiumlaw13.DataCut" = some f) (hfn : Tryz.pinned.checked.prog.funcs[f]? = some fn) :
    false = Tryz.pinned.checked.prog.looks [] ∧ ∀ (j : Nat) t, fn.params[j]? = some t → Tryz.pinned.checked.prog.wantsStandIn t = false := by
  obtain rfl : f = 4 := Option.some.inj ((show Tryz.prog.funcNamed "cambium/cambiumlaw13.DataCut" = some 4 by kernel_rfl).symm.trans hf) |>.symm
  obtain rfl : fn = Tryz.f4 := (Option.some.inj (Tryz.func4.symm.trans hfn)).symm
  refine ⟨by kernel_rfl, fun j t ht => ?_⟩
  rw [Tryz.params4] at ht
  have hm := Array.mem_of_getElem? ht
  simp only [List.mem_toArray, List.mem_cons, List.not_mem_nil, or_false] at hm
  rcases hm with rfl | rfl | rfl | rfl <;> exact (show Tryz.prog.wantsStandIn _ = false by kernel_rfl)
theorem card : Rows.DataCutCardSaid :=
  Claim7.holds_tied_plain_at .later [] _ _ _ _ over (fun _ h => by cases h) (by kernel_rfl) (fun _ h => by cases h) dataCut_row_tie rfl ⟨rfl, rfl⟩ (by kernel_rfl) rfl plain (by kernel_rfl)
end Go.Proofs.YtnngbhdofgodiaaGreatDoor.dataCut
namespace Go.Proofs.YtnngbhdofgodiaaGreatDoor
theorem dataCut_holds : Rows.DataCutCardSaid := dataCut.card
#print axioms dataCut_holds
end Go.Proofs.YtnngbhdofgodiaaGreatDoor
end
