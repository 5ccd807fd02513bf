/- DevWhole: at every input the law's function returns true and leaves its arguments as they were; no condition beyond the row's own. Part 3 of 3: this session's own texts, laid together. -/
import Derived.Test.YtcphflfjhkeooaaDoorMB1
import Derived.Test.YtcphflfjhkeooaaDoorMB2
import Derived.Test.YtcphflfjhkeooaaDoorCards
import Derived.Test.YtcphflfjhkeooaaDoorTie
import Derived.Deep.DeepHandedRow
import Derived.WalkKit
import Derived.ProofKit
import Derived.OpenShut
import Derived.ShutString
import Derived.ChangeOld
import Derived.Below
import Derived.SizedLaws
import Derived.Carry
section
-- Printed by a program of this session (mp.py) out of the translation.
namespace Go.Proofs.YtcphflfjhkeooaaDoor.Z
open Go.RowKit Go.Proofs.YtcphflfjhkeooaaDoorW.PrintWords Go.Proofs.YtcphflfjhkeooaaDoorW.PrintLast Go.Proofs.YtcphflfjhkeooaaDoorW.PrintMore
attribute [local go_sem] max2_int min2_int max_two min_two max_three min_three max_four min_four   -- for this text's walks alone
set_option linter.unusedVariables false
set_option linter.unusedSimpArgs false

/-! ### cambiumlaw03_DevWhole: function 5 -/
mutual
def cambiumlaw03_DevWhole.l0 : Nat → Int → ByteArray → Int → ByteArray → List (S39) → Int → Int → Int → List (S39) → List (S39) → Bool → Int → Option (Bool)
  | 0, _, _, _, _, _, _, _, _, _, _, _, _ => none
  | k + 1, x2, x9, x10, x11, x44, x45, x46, x486000, x486001, x486002, x486003, x486004 => if x46 < x45 then (if 0 ≤ x46 then (if x46 < (x44.length : Int) then (if ((rd_T39 x44 x46).f0) = x2 then (cambiumlaw03_DevWhole.l0 k x2 x9 x10 ((rd_T39 x44 x46).f1) x44 x45 (wrap64 (x46 + 1)) x486000 x486001 x486002 x486003 x486004) else (cambiumlaw03_DevWhole.l0 k x2 x9 x10 x11 x44 x45 (wrap64 (x46 + 1)) x486000 x486001 x486002 x486003 x486004)) else (none)) else (none)) else (cambiumlaw03_DevWhole.l1 k x2 x9 x10 (x9.toList == x11.toList) ([] : List Bool) x486002 (x486002.length : Int) 0 x486000 x486001 x486002 x486003 x486004)
def cambiumlaw03_DevWhole.l1 : Nat → Int → ByteArray → Int → Bool → List Bool → List (S39) → Int → Int → Int → List (S39) → List (S39) → Bool → Int → Option (Bool)
  | 0, _, _, _, _, _, _, _, _, _, _, _, _, _ => none
  | k + 1, x2, x9, x10, x14, x15, x61, x62, x63, x486000, x486001, x486002, x486003, x486004 => if x63 < x62 then (if 0 ≤ x63 then (if x63 < (x61.length : Int) then (if x14 = true then (if x15.length < 140737488355328 then (cambiumlaw03_DevWhole.l1 k x2 x9 x10 true (x15 ++ [true]) x61 x62 (wrap64 (x63 + 1)) x486000 x486001 x486002 x486003 x486004) else (none)) else (if ((rd_T39 x61 x63).f0) = x2 then (if x15.length < 140737488355328 then (cambiumlaw03_DevWhole.l1 k x2 x9 x10 (((rd_T39 x61 x63).f1).toList == x9.toList) (x15 ++ [true]) x61 x62 (wrap64 (x63 + 1)) x486000 x486001 x486002 x486003 x486004) else (none)) else (if x15.length < 140737488355328 then (cambiumlaw03_DevWhole.l1 k x2 x9 x10 false (x15 ++ [true]) x61 x62 (wrap64 (x63 + 1)) x486000 x486001 x486002 x486003 x486004) else (none)))) else (none)) else (none)) else ((dev_Crash.f k x486000 x486001 x486002 x486003 x486004 x15).bind fun bt513 => ((dev_Read.f k bt513.1 bt513.2.1 bt513.2.2.1 bt513.2.2.2.1 bt513.2.2.2.2.1 x2).bind fun bt524 => ((dev_Read.f k x486000 x486001 x486002 x486003 x486004 x2).bind fun bt526 => (if x10 = 0 then (if x14 = true then (if bt513.2.2.2.2.2 = 0 then (if bt524.2 = 0 then (if bt526.2 = 0 then (if bt524.1.toList = bt526.1.toList then (some true) else (if bt526.2 = 17 then (some x486003) else (some false))) else (if bt526.2 = 17 then (some x486003) else (some false))) else (some false)) else (some false)) else (some false)) else (if x10 = 1 then (some (bt524.2 == x10)) else (some false))))))
end
def cambiumlaw03_DevWhole.f (k : Nat) (a0_0 : Int) (l0_1 : List (S39)) (l0_2 : List (S39)) (a0_3 : Bool) (a0_4 : Int) (l1 : List Bool) (a2 : Int) : Option (Bool) := (cambiumlaw03_lives.f k).bind fun t486 => (if t486 = true then ((dev_Crash.f k a0_0 l0_1 l0_2 a0_3 a0_4 l1).bind fun bt487 => (if bt487.2.2.2.2.2 = 0 then ((dev_Read.f k bt487.1 bt487.2.1 bt487.2.2.1 bt487.2.2.2.1 bt487.2.2.2.2.1 a2).bind fun bt498 => (cambiumlaw03_DevWhole.l0 k a2 bt498.1 bt498.2 (⟨#[]⟩ : ByteArray) l0_1 (l0_1.length : Int) 0 a0_0 l0_1 l0_2 a0_3 a0_4)) else (some (bt487.1 == 0)))) else (some false))
theorem cambiumlaw03_DevWhole.mono_l : ∀ k, (∀ y0 y1 y2 y3 y4 y5 y6 y7 y8 y9 y10 y11, LeO (cambiumlaw03_DevWhole.l0 k y0 y1 y2 y3 y4 y5 y6 y7 y8 y9 y10 y11) (cambiumlaw03_DevWhole.l0 (k + 1) y0 y1 y2 y3 y4 y5 y6 y7 y8 y9 y10 y11)) ∧ (∀ y0 y1 y2 y3 y4 y5 y6 y7 y8 y9 y10 y11 y12, LeO (cambiumlaw03_DevWhole.l1 k y0 y1 y2 y3 y4 y5 y6 y7 y8 y9 y10 y11 y12) (cambiumlaw03_DevWhole.l1 (k + 1) y0 y1 y2 y3 y4 y5 y6 y7 y8 y9 y10 y11 y12))
  | 0 => ⟨fun _ _ _ _ _ _ _ _ _ _ _ _ r h => by simp [cambiumlaw03_DevWhole.l0] at h, fun _ _ _ _ _ _ _ _ _ _ _ _ _ r h => by simp [cambiumlaw03_DevWhole.l1] at h⟩
  | k + 1 => by
    obtain ⟨ih0, ih1⟩ := cambiumlaw03_DevWhole.mono_l k
    refine ⟨?_, ?_⟩
    · intro y0 y1 y2 y3 y4 y5 y6 y7 y8 y9 y10 y11
      unfold cambiumlaw03_DevWhole.l0
      repeat' first
      | (with_reducible exact ih0 _ _ _ _ _ _ _ _ _ _ _ _)
      | (with_reducible exact ih1 _ _ _ _ _ _ _ _ _ _ _ _ _)
      | (with_reducible exact cambiumlaw03_lives.mono _)
      | (with_reducible exact dev_Crash.mono _ _ _ _ _ _ _)
      | (with_reducible exact dev_Read.mono _ _ _ _ _ _ _)
      | (with_reducible exact LeO.refl _)
      | (with_reducible exact LeO.none _)
      | (with_reducible refine LeO.ite ?_ ?_)
      | (with_reducible refine LeO.bind ?_ (fun _ => ?_))
      | exact ih0 _ _ _ _ _ _ _ _ _ _ _ _
      | exact ih1 _ _ _ _ _ _ _ _ _ _ _ _ _
      | exact cambiumlaw03_lives.mono _
      | exact dev_Crash.mono _ _ _ _ _ _ _
      | exact dev_Read.mono _ _ _ _ _ _ _
      | exact LeO.none _
      | refine LeO.ite ?_ ?_
      | refine LeO.bind ?_ (fun _ => ?_)
    · intro y0 y1 y2 y3 y4 y5 y6 y7 y8 y9 y10 y11 y12
      unfold cambiumlaw03_DevWhole.l1
      repeat' first
      | (with_reducible exact ih0 _ _ _ _ _ _ _ _ _ _ _ _)
      | (with_reducible exact ih1 _ _ _ _ _ _ _ _ _ _ _ _ _)
      | (with_reducible exact cambiumlaw03_lives.mono _)
      | (with_reducible exact dev_Crash.mono _ _ _ _ _ _ _)
      | (with_reducible exact dev_Read.mono _ _ _ _ _ _ _)
      | (with_reducible exact LeO.refl _)
      | (with_reducible exact LeO.none _)
      | (with_reducible refine LeO.ite ?_ ?_)
      | (with_reducible refine LeO.bind ?_ (fun _ => ?_))
      | exact ih0 _ _ _ _ _ _ _ _ _ _ _ _
      | exact ih1 _ _ _ _ _ _ _ _ _ _ _ _ _
      | exact cambiumlaw03_lives.mono _
      | exact dev_Crash.mono _ _ _ _ _ _ _
      | exact dev_Read.mono _ _ _ _ _ _ _
      | exact LeO.none _
      | refine LeO.ite ?_ ?_
      | refine LeO.bind ?_ (fun _ => ?_)
theorem cambiumlaw03_DevWhole.mono : ∀ a0 a1 a2 a3 a4 a5 a6 k, LeO (cambiumlaw03_DevWhole.f k a0 a1 a2 a3 a4 a5 a6) (cambiumlaw03_DevWhole.f (k + 1) a0 a1 a2 a3 a4 a5 a6) := by
  intro a0 a1 a2 a3 a4 a5 a6 k
  obtain ⟨ih0, ih1⟩ := cambiumlaw03_DevWhole.mono_l k
  unfold cambiumlaw03_DevWhole.f
  repeat' first
      | (with_reducible exact ih0 _ _ _ _ _ _ _ _ _ _ _ _)
      | (with_reducible exact ih1 _ _ _ _ _ _ _ _ _ _ _ _ _)
      | (with_reducible exact cambiumlaw03_lives.mono _)
      | (with_reducible exact dev_Crash.mono _ _ _ _ _ _ _)
      | (with_reducible exact dev_Read.mono _ _ _ _ _ _ _)
      | (with_reducible exact LeO.refl _)
      | (with_reducible exact LeO.none _)
      | (with_reducible refine LeO.ite ?_ ?_)
      | (with_reducible refine LeO.bind ?_ (fun _ => ?_))
      | exact ih0 _ _ _ _ _ _ _ _ _ _ _ _
      | exact ih1 _ _ _ _ _ _ _ _ _ _ _ _ _
      | exact cambiumlaw03_lives.mono _
      | exact dev_Crash.mono _ _ _ _ _ _ _
      | exact dev_Read.mono _ _ _ _ _ _ _
      | exact LeO.none _
      | refine LeO.ite ?_ ?_
      | refine LeO.bind ?_ (fun _ => ?_)
set_option maxHeartbeats 8000000 in
set_option maxRecDepth 100000 in
theorem cambiumlaw03_DevWhole.calls (k : Nat) (a0_0 : Int) (A0_1 : Option Addr) (c0_1 : Nat) (l0_1 : List (S39)) (A0_2 : Option Addr) (c0_2 : Nat) (l0_2 : List (S39)) (a0_3 : Bool) (a0_4 : Int) (A1 : Option Addr) (c1 : Nat) (l1 : List Bool) (a2 : Int) (r : Bool) (w : World) (hr0_1 : Kd.C k39 w A0_1 l0_1.length l0_1) (hc0_1 : l0_1.length ≤ c0_1) (hr0_2 : Kd.C k39 w A0_2 l0_2.length l0_2) (hc0_2 : l0_2.length ≤ c0_2) (hr1 : Kd.C Kd.bool w A1 l1.length l1) (hc1 : l1.length ≤ c1) (h : cambiumlaw03_DevWhole.f k a0_0 l0_1 l0_2 a0_3 a0_4 l1 a2 = some r) (hT_ : r = true := by rfl) :
    Calls Tryd.prog 5 #[.agg #[.int .u32 a0_0, .slice A0_1 l0_1.length c0_1, .slice A0_2 l0_2.length c0_2, .bool a0_3, .int .i64 a0_4], .slice A1 l1.length c1, .int .u32 a2] w fun e w' => e = .returned (.bool r) ∧ Below w.heap.size w w' := by
  have HT_ := Aside0.mk hT_
  clear hT_
  have hu25 := Tryd.underlying25
  have hu39 := Tryd.underlying39
  have HR0_1 := Aside0.mk hr0_1
  have HC0_1 := Aside0.mk hc0_1
  clear hr0_1 hc0_1
  have HR0_2 := Aside0.mk hr0_2
  have HC0_2 := Aside0.mk hc0_2
  clear hr0_2 hc0_2
  have HR1 := Aside0.mk hr1
  have HC1 := Aside0.mk hc1
  clear hr1 hc1
  have HB := Aside0.mk (Below.refl w.heap.size w)
  have H : ((cambiumlaw03_lives.f k).bind fun t486 => (if t486 = true then ((dev_Crash.f k a0_0 l0_1 l0_2 a0_3 a0_4 l1).bind fun bt487 => (if bt487.2.2.2.2.2 = 0 then ((dev_Read.f k bt487.1 bt487.2.1 bt487.2.2.1 bt487.2.2.2.1 bt487.2.2.2.2.1 a2).bind fun bt498 => (cambiumlaw03_DevWhole.l0 k a2 bt498.1 bt498.2 (⟨#[]⟩ : ByteArray) l0_1 (l0_1.length : Int) 0 a0_0 l0_1 l0_2 a0_3 a0_4)) else (some (bt487.1 == 0)))) else (some false))) = some r := h
  clear h
  replace H := Option.bind_eq_some_iff.mp H
  obtain ⟨t486, A40, H⟩ := H
  replace H : (if t486 = true then ((dev_Crash.f k a0_0 l0_1 l0_2 a0_3 a0_4 l1).bind fun bt487 => (if bt487.2.2.2.2.2 = 0 then ((dev_Read.f k bt487.1 bt487.2.1 bt487.2.2.1 bt487.2.2.2.1 bt487.2.2.2.2.1 a2).bind fun bt498 => (cambiumlaw03_DevWhole.l0 k a2 bt498.1 bt498.2 (⟨#[]⟩ : ByteArray) l0_1 (l0_1.length : Int) 0 a0_0 l0_1 l0_2 a0_3 a0_4)) else (some (bt487.1 == 0)))) else (some false)) = some r := H
  have A4 := Aside0.mk A40
  clear A40
  by_cases c5 : t486 = true
  · subst c5
    have H1 : ((dev_Crash.f k a0_0 l0_1 l0_2 a0_3 a0_4 l1).bind fun bt487 => (if bt487.2.2.2.2.2 = 0 then ((dev_Read.f k bt487.1 bt487.2.1 bt487.2.2.1 bt487.2.2.2.1 bt487.2.2.2.2.1 a2).bind fun bt498 => (cambiumlaw03_DevWhole.l0 k a2 bt498.1 bt498.2 (⟨#[]⟩ : ByteArray) l0_1 (l0_1.length : Int) 0 a0_0 l0_1 l0_2 a0_3 a0_4)) else (some (bt487.1 == 0)))) = some r := by rw [if_pos rfl] at H; exact H
    clear H
    have H := H1
    clear H1
    replace H := Option.bind_eq_some_iff.mp H
    obtain ⟨⟨t487, t488, t491, t494, t495, t496⟩, A60, H⟩ := H
    replace H : (if t496 = 0 then ((dev_Read.f k t487 t488 t491 t494 t495 a2).bind fun bt498 => (cambiumlaw03_DevWhole.l0 k a2 bt498.1 bt498.2 (⟨#[]⟩ : ByteArray) l0_1 (l0_1.length : Int) 0 a0_0 l0_1 l0_2 a0_3 a0_4)) else (some (t487 == 0))) = some r := H
    have A6 := Aside0.mk A60
    clear A60
    by_cases c7 : t496 = 0
    · rw [if_pos c7] at H
      have c7b0 : (t496 == 0) = true := beq_iff_eq.mpr c7
      have c7b1 : (t496 != 0) = false := bne_eq_false_iff_eq.mpr c7
      clear c7
      replace H := Option.bind_eq_some_iff.mp H
      obtain ⟨⟨t498, t499⟩, A80, H⟩ := H
      replace H : (cambiumlaw03_DevWhole.l0 k a2 t498 t499 (⟨#[]⟩ : ByteArray) l0_1 (l0_1.length : Int) 0 a0_0 l0_1 l0_2 a0_3 a0_4) = some r := H
      have A8 := Aside0.mk A80
      clear A80
      have H' := Aside0.mk H
      clear H
      go_enter Tryd.func5, Tryd.ntmps5
      go_wp2_with (first | ((with_reducible refine gate_dst (N := 3) rfl ?_); refine bx_ (N := 3) (cs := #[.int .u32 a0_0, .slice A0_1 l0_1.length c0_1, .slice A0_2 l0_2.length c0_2, .bool a0_3, .int .i64 a0_4]) (t := 25) ?_; intro gb485 hg w9 hbox hb; have BK485 := Aside0.mk (hbox); have GW485 := ge_ hg; have GE485 := ge_ hg; replace HB := hb_ hb; clear hb hbox hg) | ((with_reducible refine gate_callee (f := 19) rfl ?_); refine gl_ (some 24) Tryd.func19 #[] ?_; (with_reducible refine (cambiumlaw03_lives.calls k  true _ A4.out).mono ?_); rintro e w10 ⟨rfl, hb⟩; refine ⟨_, rfl, ?_⟩; replace BK485 := kb_ BK485 hb; replace HB := hb_ hb; (try clear hb); (try clear hb2); (try clear hk); (try clear hi); obtain ⟨hcz11_0, hcz11_1, hcz11_2, hcz11_3, hcz11_4⟩ := cl5_ BK485; obtain ⟨hfz11_0, hfz11_1, hfz11_2, hfz11_3, hfz11_4⟩ := fz5_ BK485) | ((with_reducible refine gate_callee (f := 23) rfl ?_); refine gl_ (some 29) Tryd.func23 #[.agg #[.int .u32 a0_0, .slice A0_1 l0_1.length c0_1, .slice A0_2 l0_2.length c0_2, .bool a0_3, .int .i64 a0_4], .slice A1 l1.length c1] ?_; (with_reducible refine (dev_Crash.calls k a0_0 _ _ l0_1 _ _ l0_2 a0_3 a0_4 _ _ l1 t487 t488 t491 t494 t495 t496 _ ?side1 ?side2 ?side3 ?side4 ?side5 ?side6 A6.out).mono ?_); (case side1 => exact cb_ HR0_1); (case side2 => exact HC0_1.out); (case side3 => exact cb_ HR0_2); (case side4 => exact HC0_2.out); (case side5 => exact cb_ HR1); (case side6 => exact HC1.out); rintro e w12 ⟨v489, v492, rfl, ho0, ho1, hb⟩; refine ⟨_, rfl, ?_⟩; have HO490 := rl_ ho0; have HO493 := rl_ ho1; replace BK485 := kb_ BK485 hb; replace HB := hb_ hb; (try clear hb); (try clear hb2); (try clear hk); (try clear hi); (try clear ho0); (try clear ho1)) | ((with_reducible refine gate_dst (N := 7) rfl ?_); refine bx_ (N := 7) (cs := #[.int .u32 0, .slice none 0 0, .slice none 0 0, .bool false, .int .i64 0]) (t := 25) ?_; intro gb497 hg w13 hbox hb; have BK497 := Aside0.mk (hbox); have GW497 := ge_ hg; have GE497 := ge_ hg; have NB485_497 := nl_ BK485 hg; have NB497_485 := ng_ BK485 hg; replace HO490 := rb_ HO490 hb; replace HO493 := rb_ HO493 hb; replace BK485 := kb_ BK485 hb; replace HB := hb_ hb; clear hb hbox hg; have hnb14 := NB497_485.out; have hnc14 := NB485_497.out; obtain ⟨hcz15_0, hcz15_1, hcz15_2, hcz15_3, hcz15_4⟩ := cl5_ BK497; obtain ⟨hfz15_0, hfz15_1, hfz15_2, hfz15_3, hfz15_4⟩ := fz5_ BK497; obtain ⟨Ao16, co16, eo16⟩ := Kd.R_slice HO490.out; subst eo16; obtain ⟨Ao17, co17, eo17⟩ := Kd.R_slice HO493.out; subst eo17) | ((with_reducible refine gate_callee (f := 17) rfl ?_); refine gl_ (some 40) Tryd.func17 #[.agg #[.int .u32 t487, .slice Ao16 t488.length co16, .slice Ao17 t491.length co17, .bool t494, .int .i64 t495], .int .u32 a2] ?_; (with_reducible refine (dev_Read.calls k t487 _ _ t488 _ _ t491 t494 t495 a2 t498 t499 _ ?side1 ?side2 ?side3 ?side4 A8.out).mono ?_); (case side1 => exact (Kd.R_reads' (rw_ HO490)).2.2); (case side2 => exact (Kd.R_reads' HO490.out).2.1); (case side3 => exact (Kd.R_reads' (rw_ HO493)).2.2); (case side4 => exact (Kd.R_reads' HO493.out).2.1); rintro e w18 ⟨rfl, hb⟩; refine ⟨_, rfl, ?_⟩; replace HO490 := Aside0.mk (Kd.R_below (rw_ HO490) hb); replace HO493 := Aside0.mk (Kd.R_below (rw_ HO493) hb); replace BK485 := Aside0.mk (blk_below (g := gb485) (o := .cells #[.int .u32 a0_0, .slice A0_1 l0_1.length c0_1, .slice A0_2 l0_2.length c0_2, .bool a0_3, .int .i64 a0_4] 25 (0, 0)) (bs_) hb); replace HB := hb_ hb; replace BK497 := Aside0.mk (blk_below (g := gb497) (o := .cells #[.int .u32 t487, .slice Ao16 t488.length co16, .slice Ao17 t491.length co17, .bool t494, .int .i64 t495] 25 (0, 0)) (bs_) hb); (try clear hb); (try clear hb2); (try clear hk); (try clear hi); obtain ⟨hcz19_0, hcz19_1, hcz19_2, hcz19_3, hcz19_4⟩ := cl5_ BK485; obtain ⟨hfz19_0, hfz19_1, hfz19_2, hfz19_3, hfz19_4⟩ := fz5_ BK485))
      go_loopg [11, 46] k (fun kq v11 v46 w' => ∃ (x11_1 : ByteArray) (x46_1 : Int), v11 = .string x11_1 ∧ v46 = .int .i64 x46_1 ∧ Aside0 (cambiumlaw03_DevWhole.l0 kq a2 t498 t499 x11_1 l0_1 (l0_1.length : Int) x46_1 a0_0 l0_1 l0_2 a0_3 a0_4 = some r) ∧ Aside0 (kq ≤ k) ∧ Aside0 (Kd.R k39 39 w' w.heap.size (fun k_ => some k_ ≠ ((.slice Ao17 t491.length co17) : Value).ownBlock) (.slice Ao16 t488.length co16) t488) ∧ Aside0 (Kd.R k39 39 w' w.heap.size (fun k_ => some k_ ≠ ((.slice Ao16 t488.length co16) : Value).ownBlock) (.slice Ao17 t491.length co17) t491) ∧ Aside0 (w'.heap[gb485]? = some (.cells #[.int .u32 a0_0, (.slice A0_1 l0_1.length c0_1), (.slice A0_2 l0_2.length c0_2), .bool a0_3, .int .i64 a0_4] 25 (0, 0))) ∧ Aside0 (w'.heap[gb497]? = some (.cells #[.int .u32 t487, (.slice Ao16 t488.length co16), (.slice Ao17 t491.length co17), .bool t494, .int .i64 t495] 25 (0, 0))) ∧ Aside0 (Below w.heap.size w w'))
      case atStart => exact ⟨((⟨#[]⟩ : ByteArray)), (0), (by first | rfl | (simp; done) | (simp [*]; done)), (by first | rfl | (simp; done) | (simp [*]; done)), H', ⟨Nat.le_refl _⟩, ⟨ra_ HO490⟩, ⟨ra_ HO493⟩, ⟨bk_ BK485⟩, ⟨bk_ BK497⟩, ⟨bel_⟩⟩
      case round =>
        clear H'
        try clear c1
        try clear c2
        try clear p2
        try clear c5
        try clear c7
        try clear c7b0
        try clear c7b1
        try clear c14
        try clear c17
        try clear c19
        try clear hcz11_0
        try clear hcz11_1
        try clear hcz11_2
        try clear hcz11_3
        try clear hcz11_4
        try clear hcz15_0
        try clear hcz15_1
        try clear hcz15_2
        try clear hcz15_3
        try clear hcz15_4
        try clear hcz19_0
        try clear hcz19_1
        try clear hcz19_2
        try clear hcz19_3
        try clear hcz19_4
        try clear hfz11_0
        try clear hfz11_1
        try clear hfz11_2
        try clear hfz11_3
        try clear hfz11_4
        try clear hfz15_0
        try clear hfz15_1
        try clear hfz15_2
        try clear hfz15_3
        try clear hfz15_4
        try clear hfz19_0
        try clear hfz19_1
        try clear hfz19_2
        try clear hfz19_3
        try clear hfz19_4
        obtain ⟨x11_1, x46_1, rfl, rfl, HA, HK1, HO_498001, HO_498002, BK485, BK497, HB⟩ := hrel
        cases gk with
        | zero => exact absurd HA.out (by simp [cambiumlaw03_DevWhole.l0])
        | succ k1 =>
          have H := HA.out
          clear HA
          simp only [cambiumlaw03_DevWhole.l0] at H
          by_cases c20 : x46_1 < (l0_1.length : Int)
          · rw [if_pos c20] at H
            have c20b0 : decide (x46_1 < (l0_1.length : Int)) = true := decide_eq_true c20
            clear c20
            by_cases c21 : 0 ≤ x46_1
            · rw [if_pos c21] at H
              have c21b0 : decide (0 ≤ x46_1) = true := decide_eq_true c21
              clear c21
              by_cases c22 : x46_1 < (l0_1.length : Int)
              · rw [if_pos c22] at H
                have c22b0 : decide (x46_1 < (l0_1.length : Int)) = true := decide_eq_true c22
                clear c22
                by_cases c23 : ((rd_T39 l0_1 x46_1).f0) = a2
                · rw [if_pos c23] at H
                  have c23b0 : (((rd_T39 l0_1 x46_1).f0) == a2) = true := beq_iff_eq.mpr c23
                  have c23b1 : (((rd_T39 l0_1 x46_1).f0) != a2) = false := bne_eq_false_iff_eq.mpr c23
                  clear c23
                  have H' := Aside0.mk H
                  clear H
                  have p500 : 0 ≤ (x46_1 : Int) := of_decide_eq_true (by first | (with_reducible assumption) | assumption)
                  have q500 : x46_1 < (l0_1.length : Int) := of_decide_eq_true (by first | (with_reducible assumption) | assumption)
                  obtain ⟨ad500, e500, hx500_0, hx500_1⟩ := at_T39 HR0_1.out x46_1 p500 q500
                  cases e500
                  replace hx500_0 := (HB.out.cell (World.block_lt_of_cell? w _ hx500_0)).trans hx500_0
                  replace hx500_1 := (HB.out.cell (World.block_lt_of_cell? w _ hx500_1)).trans hx500_1
                  replace p500 := eq_true p500
                  replace q500 := eq_true q500
                  go_wp2_with (first | ((with_reducible refine gate_dst (N := 13) rfl ?_); refine bx_ (N := 13) (cs := #[.int .u32 0, .string (⟨#[]⟩ : ByteArray)]) (t := 39) ?_; intro gb501 hg w24 hbox hb; have BK501 := Aside0.mk (hbox); have GW501 := ge_ hg; have GE501 := ge_ hg; have NB485_501 := nl_ BK485 hg; have NB501_485 := ng_ BK485 hg; have NB497_501 := nl_ BK497 hg; have NB501_497 := ng_ BK497 hg; replace HO_498001 := Aside0.mk (Kd.R_below (Kd.R_elderB (ra_ HO_498001) gb501 (Nat.le_of_eq hg.symm)) hb); replace HO_498002 := Aside0.mk (Kd.R_below (Kd.R_elderB (ra_ HO_498002) gb501 (Nat.le_of_eq hg.symm)) hb); replace BK485 := kb_ BK485 hb; replace BK497 := kb_ BK497 hb; replace HB := hb_ hb; clear hb hbox hg; have hnb25 := NB501_485.out; have hnc25 := NB485_501.out; have hnb26 := NB501_497.out; have hnc26 := NB497_501.out; obtain ⟨hcz27_0, hcz27_1⟩ := cl2_ BK501; obtain ⟨hfz27_0, hfz27_1⟩ := fz2_ BK501))
                  go_roundg k1
                  case measure => have := HK1.out; omega
                  case rel => exact ⟨((rd_T39 l0_1 x46_1).f1), (wrap64 (x46_1 + 1)), (by first | rfl | (simp; done) | (simp [*]; done)), (by first | rfl | (simp; done) | (simp [*]; done)), H', ⟨by have := HK1.out; omega⟩, ⟨by (with_reducible repeat (first | apply Kd.R_alloc | apply Kd.R_drewN | apply Kd.R_drew)); exact Kd.R_mono (Kd.R_far (p := ⟨gb501, 1, none⟩) (Kd.R_far (p := ⟨gb501, 0, none⟩) (Kd.R_mono HO_498001.out (fun k_ hk => (⟨hk, hk.2⟩ : _ ∧ k_ ≠ gb501))) (fun _ hk => hk.2) (.int .u32 ((rd_T39 l0_1 x46_1).f0))) (fun _ hk => hk.2) (.string ((rd_T39 l0_1 x46_1).f1))) (fun _ hk => hk.1.1)⟩, ⟨by (with_reducible repeat (first | apply Kd.R_alloc | apply Kd.R_drewN | apply Kd.R_drew)); exact Kd.R_mono (Kd.R_far (p := ⟨gb501, 1, none⟩) (Kd.R_far (p := ⟨gb501, 0, none⟩) (Kd.R_mono HO_498002.out (fun k_ hk => (⟨hk, hk.2⟩ : _ ∧ k_ ≠ gb501))) (fun _ hk => hk.2) (.int .u32 ((rd_T39 l0_1 x46_1).f0))) (fun _ hk => hk.2) (.string ((rd_T39 l0_1 x46_1).f1))) (fun _ hk => hk.1.1)⟩, ⟨bs_⟩, ⟨bs_⟩, ⟨bel_⟩⟩
                · rw [if_neg c23] at H
                  have c23b0 : (((rd_T39 l0_1 x46_1).f0) == a2) = false := beq_eq_false_iff_ne.mpr c23
                  have c23b1 : (((rd_T39 l0_1 x46_1).f0) != a2) = true := bne_iff_ne.mpr c23
                  have H' := Aside0.mk H
                  clear H
                  have p500 : 0 ≤ (x46_1 : Int) := of_decide_eq_true (by first | (with_reducible assumption) | assumption)
                  have q500 : x46_1 < (l0_1.length : Int) := of_decide_eq_true (by first | (with_reducible assumption) | assumption)
                  obtain ⟨ad500, e500, hx500_0, hx500_1⟩ := at_T39 HR0_1.out x46_1 p500 q500
                  cases e500
                  replace hx500_0 := (HB.out.cell (World.block_lt_of_cell? w _ hx500_0)).trans hx500_0
                  replace hx500_1 := (HB.out.cell (World.block_lt_of_cell? w _ hx500_1)).trans hx500_1
                  replace p500 := eq_true p500
                  replace q500 := eq_true q500
                  go_wp2_with (first | ((with_reducible refine gate_dst (N := 13) rfl ?_); refine bx_ (N := 13) (cs := #[.int .u32 0, .string (⟨#[]⟩ : ByteArray)]) (t := 39) ?_; intro gb501 hg w28 hbox hb; have BK501 := Aside0.mk (hbox); have GW501 := ge_ hg; have GE501 := ge_ hg; have NB485_501 := nl_ BK485 hg; have NB501_485 := ng_ BK485 hg; have NB497_501 := nl_ BK497 hg; have NB501_497 := ng_ BK497 hg; replace HO_498001 := Aside0.mk (Kd.R_below (Kd.R_elderB (ra_ HO_498001) gb501 (Nat.le_of_eq hg.symm)) hb); replace HO_498002 := Aside0.mk (Kd.R_below (Kd.R_elderB (ra_ HO_498002) gb501 (Nat.le_of_eq hg.symm)) hb); replace BK485 := kb_ BK485 hb; replace BK497 := kb_ BK497 hb; replace HB := hb_ hb; clear hb hbox hg; have hnb29 := NB501_485.out; have hnc29 := NB485_501.out; have hnb30 := NB501_497.out; have hnc30 := NB497_501.out; obtain ⟨hcz31_0, hcz31_1⟩ := cl2_ BK501; obtain ⟨hfz31_0, hfz31_1⟩ := fz2_ BK501))
                  go_roundg k1
                  case measure => have := HK1.out; omega
                  case rel => exact ⟨(x11_1), (wrap64 (x46_1 + 1)), (by first | rfl | (simp; done) | (simp [*]; done)), (by first | rfl | (simp; done) | (simp [*]; done)), H', ⟨by have := HK1.out; omega⟩, ⟨by (with_reducible repeat (first | apply Kd.R_alloc | apply Kd.R_drewN | apply Kd.R_drew)); exact Kd.R_mono (Kd.R_far (p := ⟨gb501, 1, none⟩) (Kd.R_far (p := ⟨gb501, 0, none⟩) (Kd.R_mono HO_498001.out (fun k_ hk => (⟨hk, hk.2⟩ : _ ∧ k_ ≠ gb501))) (fun _ hk => hk.2) (.int .u32 ((rd_T39 l0_1 x46_1).f0))) (fun _ hk => hk.2) (.string ((rd_T39 l0_1 x46_1).f1))) (fun _ hk => hk.1.1)⟩, ⟨by (with_reducible repeat (first | apply Kd.R_alloc | apply Kd.R_drewN | apply Kd.R_drew)); exact Kd.R_mono (Kd.R_far (p := ⟨gb501, 1, none⟩) (Kd.R_far (p := ⟨gb501, 0, none⟩) (Kd.R_mono HO_498002.out (fun k_ hk => (⟨hk, hk.2⟩ : _ ∧ k_ ≠ gb501))) (fun _ hk => hk.2) (.int .u32 ((rd_T39 l0_1 x46_1).f0))) (fun _ hk => hk.2) (.string ((rd_T39 l0_1 x46_1).f1))) (fun _ hk => hk.1.1)⟩, ⟨bs_⟩, ⟨bs_⟩, ⟨bel_⟩⟩
              · rw [if_neg c22] at H
                exact absurd H (by simp)
            · rw [if_neg c21] at H
              exact absurd H (by simp)
          · rw [if_neg c20] at H
            have c20b0 : decide (x46_1 < (l0_1.length : Int)) = false := decide_eq_false c20
            clear c20
            have H' := Aside0.mk H
            clear H
            have hnb32 := NB485_497.out
            have hnc32 := NB497_485.out
            obtain ⟨hcz33_0, hcz33_1, hcz33_2, hcz33_3, hcz33_4⟩ := cl5_ BK485
            obtain ⟨hfz33_0, hfz33_1, hfz33_2, hfz33_3, hfz33_4⟩ := fz5_ BK485
            go_wp2
            go_loopg [14, 15, 63] k1 (fun kq v14 v15 v63 w' => ∃ (x14_2 : Bool) (x15_2 : List Bool) (x63_2 : Int), v14 = .bool x14_2 ∧ v63 = .int .i64 x63_2 ∧ Aside0 (cambiumlaw03_DevWhole.l1 kq a2 t498 t499 x14_2 x15_2 l0_2 (l0_2.length : Int) x63_2 a0_0 l0_1 l0_2 a0_3 a0_4 = some r) ∧ Aside0 (kq ≤ k1) ∧ Aside0 (Kd.R Kd.bool 4 w' w.heap.size (fun _ => True) v15 x15_2) ∧ Aside0 (Kd.R k39 39 w' w.heap.size (fun k_ => some k_ ≠ ((.slice Ao17 t491.length co17) : Value).ownBlock) (.slice Ao16 t488.length co16) t488) ∧ Aside0 (Kd.R k39 39 w' w.heap.size (fun k_ => some k_ ≠ ((.slice Ao16 t488.length co16) : Value).ownBlock) (.slice Ao17 t491.length co17) t491) ∧ Aside0 (w'.heap[gb485]? = some (.cells #[.int .u32 a0_0, (.slice A0_1 l0_1.length c0_1), (.slice A0_2 l0_2.length c0_2), .bool a0_3, .int .i64 a0_4] 25 (0, 0))) ∧ Aside0 (w'.heap[gb497]? = some (.cells #[.int .u32 t487, (.slice Ao16 t488.length co16), (.slice Ao17 t491.length co17), .bool t494, .int .i64 t495] 25 (0, 0))) ∧ Aside0 (Below w.heap.size w w'))
            case atStart => exact ⟨((t498.toList == x11_1.toList)), (([] : List Bool)), (0), (by first | rfl | (simp; done) | (simp [*]; done)), (by first | rfl | (simp; done) | (simp [*]; done)), H', ⟨Nat.le_refl _⟩, ⟨by first | exact Kd.R_nil _ _ _ _ _ | exact Kd.N_nil _ _ _ _ _ | exact Kd.V_nil _ _ _ _ _ | exact Kd.Q_nil _ _ _ _ _ | exact Kd.S_nil _ _ _ _ _⟩, ⟨ra_ HO_498001⟩, ⟨ra_ HO_498002⟩, ⟨bk_ BK485⟩, ⟨bk_ BK497⟩, ⟨bel_⟩⟩
            case round =>
              clear H'
              try clear c1
              try clear c2
              try clear p2
              try clear c3
              try clear c5
              try clear p5
              try clear q5
              try clear hx5
              try clear p6
              try clear c7
              try clear c7b0
              try clear c7b1
              try clear c14
              try clear c17
              try clear c19
              try clear c20
              try clear c20b0
              try clear c21
              try clear c21b0
              try clear c22
              try clear c22b0
              try clear c23
              try clear c23b0
              try clear c23b1
              try clear c25
              try clear c26
              try clear c29
              try clear c30
              try clear c32
              try clear hcz11_0
              try clear hcz11_1
              try clear hcz11_2
              try clear hcz11_3
              try clear hcz11_4
              try clear hcz15_0
              try clear hcz15_1
              try clear hcz15_2
              try clear hcz15_3
              try clear hcz15_4
              try clear hcz19_0
              try clear hcz19_1
              try clear hcz19_2
              try clear hcz19_3
              try clear hcz19_4
              try clear hcz27_0
              try clear hcz27_1
              try clear hcz31_0
              try clear hcz31_1
              try clear hcz33_0
              try clear hcz33_1
              try clear hcz33_2
              try clear hcz33_3
              try clear hcz33_4
              try clear hfz11_0
              try clear hfz11_1
              try clear hfz11_2
              try clear hfz11_3
              try clear hfz11_4
              try clear hfz15_0
              try clear hfz15_1
              try clear hfz15_2
              try clear hfz15_3
              try clear hfz15_4
              try clear hfz19_0
              try clear hfz19_1
              try clear hfz19_2
              try clear hfz19_3
              try clear hfz19_4
              try clear hfz27_0
              try clear hfz27_1
              try clear hfz31_0
              try clear hfz31_1
              try clear hfz33_0
              try clear hfz33_1
              try clear hfz33_2
              try clear hfz33_3
              try clear hfz33_4
              try clear hx500_0
              try clear hx500_1
              try clear p2
              try clear p500
              try clear q500
              obtain ⟨x14_2, x15_2, x63_2, rfl, rfl, HA, HK2, HO_15, HO_498001, HO_498002, BK485, BK497, HB⟩ := hrel
              cases gk with
              | zero => exact absurd HA.out (by simp [cambiumlaw03_DevWhole.l1])
              | succ k2 =>
                have H := HA.out
                clear HA
                simp only [cambiumlaw03_DevWhole.l1] at H
                by_cases c34 : x63_2 < (l0_2.length : Int)
                · rw [if_pos c34] at H
                  have c34b0 : decide (x63_2 < (l0_2.length : Int)) = true := decide_eq_true c34
                  clear c34
                  by_cases c35 : 0 ≤ x63_2
                  · rw [if_pos c35] at H
                    have c35b0 : decide (0 ≤ x63_2) = true := decide_eq_true c35
                    clear c35
                    by_cases c36 : x63_2 < (l0_2.length : Int)
                    · rw [if_pos c36] at H
                      have c36b0 : decide (x63_2 < (l0_2.length : Int)) = true := decide_eq_true c36
                      clear c36
                      by_cases c37 : x14_2 = true
                      · subst c37
                        have H1 : (if x15_2.length < 140737488355328 then (cambiumlaw03_DevWhole.l1 k2 a2 t498 t499 true (x15_2 ++ [true]) l0_2 (l0_2.length : Int) (wrap64 (x63_2 + 1)) a0_0 l0_1 l0_2 a0_3 a0_4) else (none)) = some r := by rw [if_pos rfl] at H; exact H
                        clear H
                        have H := H1
                        clear H1
                        by_cases c38 : x15_2.length < 140737488355328
                        · rw [if_pos c38] at H
                          have LMc38 := Aside0.mk c38
                          clear c38
                          obtain ⟨y504, hy504⟩ : ∃ y_ : List Bool, y_ = (x15_2 ++ [true]) := ⟨_, rfl⟩
                          replace H : (cambiumlaw03_DevWhole.l1 k2 a2 t498 t499 true y504 l0_2 (l0_2.length : Int) (wrap64 (x63_2 + 1)) a0_0 l0_1 l0_2 a0_3 a0_4) = some r := by first | (rw [hy504]; with_reducible exact H) | (have H2_ := (Option.bind_some _ _).symm.trans H; rw [hy504]; with_reducible exact H2_) | (have H2_ := (Option.bind_some _ _).symm.trans H; with_reducible exact H2_) | with_reducible exact H | (rw [hy504]; exact H) | exact H
                          have Ny504 := Aside0.mk hy504
                          clear hy504
                          have H' := Aside0.mk H
                          clear H
                          have p502 : 0 ≤ (x63_2 : Int) := of_decide_eq_true (by first | (with_reducible assumption) | assumption)
                          have q502 : x63_2 < (l0_2.length : Int) := of_decide_eq_true (by first | (with_reducible assumption) | assumption)
                          obtain ⟨ad502, e502, hx502_0, hx502_1⟩ := at_T39 HR0_2.out x63_2 p502 q502
                          cases e502
                          replace hx502_0 := (HB.out.cell (World.block_lt_of_cell? w _ hx502_0)).trans hx502_0
                          replace hx502_1 := (HB.out.cell (World.block_lt_of_cell? w _ hx502_1)).trans hx502_1
                          replace p502 := eq_true p502
                          replace q502 := eq_true q502
                          go_wp2_with (first | ((with_reducible refine gate_dst (N := 17) rfl ?_); refine bx_ (N := 17) (cs := #[.int .u32 0, .string (⟨#[]⟩ : ByteArray)]) (t := 39) ?_; intro gb503 hg w39 hbox hb; have BK503 := Aside0.mk (hbox); have GW503 := ge_ hg; have GE503 := ge_ hg; have NB485_503 := nl_ BK485 hg; have NB503_485 := ng_ BK485 hg; have NB497_503 := nl_ BK497 hg; have NB503_497 := ng_ BK497 hg; replace HO_15 := rb_ HO_15 hb; replace HO_498001 := Aside0.mk (Kd.R_below (Kd.R_elderB (ra_ HO_498001) gb503 (Nat.le_of_eq hg.symm)) hb); replace HO_498002 := Aside0.mk (Kd.R_below (Kd.R_elderB (ra_ HO_498002) gb503 (Nat.le_of_eq hg.symm)) hb); replace BK485 := kb_ BK485 hb; replace BK497 := kb_ BK497 hb; replace HB := hb_ hb; clear hb hbox hg; have hnb40 := NB503_485.out; have hnc40 := NB485_503.out; have hnb41 := NB503_497.out; have hnc41 := NB497_503.out; obtain ⟨hcz42_0, hcz42_1⟩ := cl2_ BK503; obtain ⟨hfz42_0, hfz42_1⟩ := fz2_ BK503) | ((with_reducible refine gate_builtin (b := .append) (xs := #[.tmp 80, .tmp 81]) rfl ?_); at_builtin; refine Kd.R_append Kd.bool (w0 := w) w.heap.size rfl (.tmp 80) (.tmp 81) 37 4 (.bool false) 1 rfl Tryd.underlying37 info4 rfl (by decide) (by omega) u15 x15_2 true [.bool true] (fun _ => True) (fun _ => False) rfl (by first | (go_simp; done) | (go_simp; rfl)) ?aP (fun _ hk => hk.elim) ?aF ?aO ?aB ?aS ?aL ?_; (case aP => exact rfl); (case aB => exact bel_); (case aF => exact (fun _ _ => trivial)); (case aO => exact (by (with_reducible repeat (first | apply Kd.R_alloc | apply Kd.R_drewN | apply Kd.R_drew)); exact Kd.R_mono (Kd.R_far (p := ⟨gb503, 1, none⟩) (Kd.R_far (p := ⟨gb503, 0, none⟩) (Kd.R_types HO_15.out BK503.out (by decide)) (fun _ hk => hk.2) (.int .u32 ((rd_T39 l0_2 x63_2).f0))) (fun _ hk => hk.2) (.string ((rd_T39 l0_2 x63_2).f1))) (fun _ hk => trivial))); (case aS => exact (below_size bel_)); (case aL => have := LMc38.out; omega); intro v505 w43 ho hb hg hat; rw [← Ny504.out] at ho; have HO506 := Aside0.mk (ho); replace HO_498001 := Aside0.mk (Kd.R_over' (by (with_reducible repeat (first | apply Kd.R_alloc | apply Kd.R_drewN | apply Kd.R_drew)); exact (Kd.R_mono (Kd.R_far (p := ⟨gb503, 1, none⟩) (Kd.R_far (p := ⟨gb503, 0, none⟩) (Kd.R_mono HO_498001.out (fun k_ hk => (⟨hk, hk.2⟩ : _ ∧ k_ ≠ gb503))) (fun _ hk => hk.2) (.int .u32 ((rd_T39 l0_2 x63_2).f0))) (fun _ hk => hk.2) (.string ((rd_T39 l0_2 x63_2).f1))) (fun _ h_ => h_.1))) (Kd.R_typed (rw_ HO_15)) (by decide) hg); replace HO_498002 := Aside0.mk (Kd.R_over' (by (with_reducible repeat (first | apply Kd.R_alloc | apply Kd.R_drewN | apply Kd.R_drew)); exact (Kd.R_mono (Kd.R_far (p := ⟨gb503, 1, none⟩) (Kd.R_far (p := ⟨gb503, 0, none⟩) (Kd.R_mono HO_498002.out (fun k_ hk => (⟨hk, hk.2⟩ : _ ∧ k_ ≠ gb503))) (fun _ hk => hk.2) (.int .u32 ((rd_T39 l0_2 x63_2).f0))) (fun _ hk => hk.2) (.string ((rd_T39 l0_2 x63_2).f1))) (fun _ h_ => h_.1))) (Kd.R_typed (rw_ HO_15)) (by decide) hg); replace BK485 := Aside0.mk (blk_grown (g := gb485) (o := .cells #[.int .u32 a0_0, .slice A0_1 l0_1.length c0_1, .slice (some ad502) l0_2.length c0_2, .bool a0_3, .int .i64 a0_4] 25 (0, 0)) (bs_) hg (Kd.R_ne HO_15.out BK485.out (by decide))); replace BK497 := Aside0.mk (blk_grown (g := gb497) (o := .cells #[.int .u32 t487, .slice Ao16 t488.length co16, .slice Ao17 t491.length co17, .bool t494, .int .i64 t495] 25 (0, 0)) (bs_) hg (Kd.R_ne HO_15.out BK497.out (by decide))); replace HB := Aside0.mk (hb); replace BK503 := Aside0.mk (blk_grown (g := gb503) (o := .cells #[.int .u32 ((rd_T39 l0_2 x63_2).f0), .string ((rd_T39 l0_2 x63_2).f1)] 39 (0, 0)) (bs_) hg (Kd.R_ne HO_15.out BK503.out (by decide))); clear HO_15; clear ho hb hg hat))
                          go_roundg k2
                          case measure => have := HK1.out; have := HK2.out; omega
                          case rel => exact ⟨(true), (y504), (wrap64 (x63_2 + 1)), (by first | rfl | (simp; done) | (simp [*]; done)), (by first | rfl | (simp; done) | (simp [*]; done)), H', ⟨by have := HK1.out; have := HK2.out; omega⟩, ⟨ra_ HO506⟩, ⟨by (with_reducible repeat (first | apply Kd.R_alloc | apply Kd.R_drewN | apply Kd.R_drew)); exact Kd.R_mono HO_498001.out (fun _ hk => hk.1)⟩, ⟨by (with_reducible repeat (first | apply Kd.R_alloc | apply Kd.R_drewN | apply Kd.R_drew)); exact Kd.R_mono HO_498002.out (fun _ hk => hk.1)⟩, ⟨bk_ BK485⟩, ⟨bk_ BK497⟩, ⟨bel_⟩⟩
                        · rw [if_neg c38] at H
                          exact absurd H (by simp)
                      · replace c37 := Bool.eq_false_iff.mpr c37
                        subst c37
                        have H1 : (if ((rd_T39 l0_2 x63_2).f0) = a2 then (if x15_2.length < 140737488355328 then (cambiumlaw03_DevWhole.l1 k2 a2 t498 t499 (((rd_T39 l0_2 x63_2).f1).toList == t498.toList) (x15_2 ++ [true]) l0_2 (l0_2.length : Int) (wrap64 (x63_2 + 1)) a0_0 l0_1 l0_2 a0_3 a0_4) else (none)) else (if x15_2.length < 140737488355328 then (cambiumlaw03_DevWhole.l1 k2 a2 t498 t499 false (x15_2 ++ [true]) l0_2 (l0_2.length : Int) (wrap64 (x63_2 + 1)) a0_0 l0_1 l0_2 a0_3 a0_4) else (none))) = some r := by rw [if_neg (show ¬ (false = true) by decide)] at H; exact H
                        clear H
                        have H := H1
                        clear H1
                        by_cases c44 : ((rd_T39 l0_2 x63_2).f0) = a2
                        · rw [if_pos c44] at H
                          have c44b0 : (((rd_T39 l0_2 x63_2).f0) == a2) = true := beq_iff_eq.mpr c44
                          have c44b1 : (((rd_T39 l0_2 x63_2).f0) != a2) = false := bne_eq_false_iff_eq.mpr c44
                          clear c44
                          by_cases c45 : x15_2.length < 140737488355328
                          · rw [if_pos c45] at H
                            have LMc45 := Aside0.mk c45
                            clear c45
                            obtain ⟨y507, hy507⟩ : ∃ y_ : List Bool, y_ = (x15_2 ++ [true]) := ⟨_, rfl⟩
                            replace H : (cambiumlaw03_DevWhole.l1 k2 a2 t498 t499 (((rd_T39 l0_2 x63_2).f1).toList == t498.toList) y507 l0_2 (l0_2.length : Int) (wrap64 (x63_2 + 1)) a0_0 l0_1 l0_2 a0_3 a0_4) = some r := by first | (rw [hy507]; with_reducible exact H) | (have H2_ := (Option.bind_some _ _).symm.trans H; rw [hy507]; with_reducible exact H2_) | (have H2_ := (Option.bind_some _ _).symm.trans H; with_reducible exact H2_) | with_reducible exact H | (rw [hy507]; exact H) | exact H
                            have Ny507 := Aside0.mk hy507
                            clear hy507
                            have H' := Aside0.mk H
                            clear H
                            have p502 : 0 ≤ (x63_2 : Int) := of_decide_eq_true (by first | (with_reducible assumption) | assumption)
                            have q502 : x63_2 < (l0_2.length : Int) := of_decide_eq_true (by first | (with_reducible assumption) | assumption)
                            obtain ⟨ad502, e502, hx502_0, hx502_1⟩ := at_T39 HR0_2.out x63_2 p502 q502
                            cases e502
                            replace hx502_0 := (HB.out.cell (World.block_lt_of_cell? w _ hx502_0)).trans hx502_0
                            replace hx502_1 := (HB.out.cell (World.block_lt_of_cell? w _ hx502_1)).trans hx502_1
                            replace p502 := eq_true p502
                            replace q502 := eq_true q502
                            go_wp2_with (first | ((with_reducible refine gate_dst (N := 17) rfl ?_); refine bx_ (N := 17) (cs := #[.int .u32 0, .string (⟨#[]⟩ : ByteArray)]) (t := 39) ?_; intro gb503 hg w46 hbox hb; have BK503 := Aside0.mk (hbox); have GW503 := ge_ hg; have GE503 := ge_ hg; have NB485_503 := nl_ BK485 hg; have NB503_485 := ng_ BK485 hg; have NB497_503 := nl_ BK497 hg; have NB503_497 := ng_ BK497 hg; replace HO_15 := rb_ HO_15 hb; replace HO_498001 := Aside0.mk (Kd.R_below (Kd.R_elderB (ra_ HO_498001) gb503 (Nat.le_of_eq hg.symm)) hb); replace HO_498002 := Aside0.mk (Kd.R_below (Kd.R_elderB (ra_ HO_498002) gb503 (Nat.le_of_eq hg.symm)) hb); replace BK485 := kb_ BK485 hb; replace BK497 := kb_ BK497 hb; replace HB := hb_ hb; clear hb hbox hg; have hnb47 := NB503_485.out; have hnc47 := NB485_503.out; have hnb48 := NB503_497.out; have hnc48 := NB497_503.out; obtain ⟨hcz49_0, hcz49_1⟩ := cl2_ BK503; obtain ⟨hfz49_0, hfz49_1⟩ := fz2_ BK503) | ((with_reducible refine gate_builtin (b := .append) (xs := #[.tmp 80, .tmp 81]) rfl ?_); at_builtin; refine Kd.R_append Kd.bool (w0 := w) w.heap.size rfl (.tmp 80) (.tmp 81) 37 4 (.bool false) 1 rfl Tryd.underlying37 info4 rfl (by decide) (by omega) u15 x15_2 true [.bool true] (fun _ => True) (fun _ => False) rfl (by first | (go_simp; done) | (go_simp; rfl)) ?aP (fun _ hk => hk.elim) ?aF ?aO ?aB ?aS ?aL ?_; (case aP => exact rfl); (case aB => exact bel_); (case aF => exact (fun _ _ => trivial)); (case aO => exact (by (with_reducible repeat (first | apply Kd.R_alloc | apply Kd.R_drewN | apply Kd.R_drew)); exact Kd.R_mono (Kd.R_far (p := ⟨gb503, 1, none⟩) (Kd.R_far (p := ⟨gb503, 0, none⟩) (Kd.R_types HO_15.out BK503.out (by decide)) (fun _ hk => hk.2) (.int .u32 ((rd_T39 l0_2 x63_2).f0))) (fun _ hk => hk.2) (.string ((rd_T39 l0_2 x63_2).f1))) (fun _ hk => trivial))); (case aS => exact (below_size bel_)); (case aL => have := LMc45.out; omega); intro v508 w50 ho hb hg hat; rw [← Ny507.out] at ho; have HO509 := Aside0.mk (ho); replace HO_498001 := Aside0.mk (Kd.R_over' (by (with_reducible repeat (first | apply Kd.R_alloc | apply Kd.R_drewN | apply Kd.R_drew)); exact (Kd.R_mono (Kd.R_far (p := ⟨gb503, 1, none⟩) (Kd.R_far (p := ⟨gb503, 0, none⟩) (Kd.R_mono HO_498001.out (fun k_ hk => (⟨hk, hk.2⟩ : _ ∧ k_ ≠ gb503))) (fun _ hk => hk.2) (.int .u32 ((rd_T39 l0_2 x63_2).f0))) (fun _ hk => hk.2) (.string ((rd_T39 l0_2 x63_2).f1))) (fun _ h_ => h_.1))) (Kd.R_typed (rw_ HO_15)) (by decide) hg); replace HO_498002 := Aside0.mk (Kd.R_over' (by (with_reducible repeat (first | apply Kd.R_alloc | apply Kd.R_drewN | apply Kd.R_drew)); exact (Kd.R_mono (Kd.R_far (p := ⟨gb503, 1, none⟩) (Kd.R_far (p := ⟨gb503, 0, none⟩) (Kd.R_mono HO_498002.out (fun k_ hk => (⟨hk, hk.2⟩ : _ ∧ k_ ≠ gb503))) (fun _ hk => hk.2) (.int .u32 ((rd_T39 l0_2 x63_2).f0))) (fun _ hk => hk.2) (.string ((rd_T39 l0_2 x63_2).f1))) (fun _ h_ => h_.1))) (Kd.R_typed (rw_ HO_15)) (by decide) hg); replace BK485 := Aside0.mk (blk_grown (g := gb485) (o := .cells #[.int .u32 a0_0, .slice A0_1 l0_1.length c0_1, .slice (some ad502) l0_2.length c0_2, .bool a0_3, .int .i64 a0_4] 25 (0, 0)) (bs_) hg (Kd.R_ne HO_15.out BK485.out (by decide))); replace BK497 := Aside0.mk (blk_grown (g := gb497) (o := .cells #[.int .u32 t487, .slice Ao16 t488.length co16, .slice Ao17 t491.length co17, .bool t494, .int .i64 t495] 25 (0, 0)) (bs_) hg (Kd.R_ne HO_15.out BK497.out (by decide))); replace HB := Aside0.mk (hb); replace BK503 := Aside0.mk (blk_grown (g := gb503) (o := .cells #[.int .u32 ((rd_T39 l0_2 x63_2).f0), .string ((rd_T39 l0_2 x63_2).f1)] 39 (0, 0)) (bs_) hg (Kd.R_ne HO_15.out BK503.out (by decide))); clear HO_15; clear ho hb hg hat))
                            go_roundg k2
                            case measure => have := HK1.out; have := HK2.out; omega
                            case rel => exact ⟨((((rd_T39 l0_2 x63_2).f1).toList == t498.toList)), (y507), (wrap64 (x63_2 + 1)), (by first | rfl | (simp; done) | (simp [*]; done)), (by first | rfl | (simp; done) | (simp [*]; done)), H', ⟨by have := HK1.out; have := HK2.out; omega⟩, ⟨ra_ HO509⟩, ⟨by (with_reducible repeat (first | apply Kd.R_alloc | apply Kd.R_drewN | apply Kd.R_drew)); exact Kd.R_mono HO_498001.out (fun _ hk => hk.1)⟩, ⟨by (with_reducible repeat (first | apply Kd.R_alloc | apply Kd.R_drewN | apply Kd.R_drew)); exact Kd.R_mono HO_498002.out (fun _ hk => hk.1)⟩, ⟨bk_ BK485⟩, ⟨bk_ BK497⟩, ⟨bel_⟩⟩
                          · rw [if_neg c45] at H
                            exact absurd H (by simp)
                        · rw [if_neg c44] at H
                          have c44b0 : (((rd_T39 l0_2 x63_2).f0) == a2) = false := beq_eq_false_iff_ne.mpr c44
                          have c44b1 : (((rd_T39 l0_2 x63_2).f0) != a2) = true := bne_iff_ne.mpr c44
                          by_cases c51 : x15_2.length < 140737488355328
                          · rw [if_pos c51] at H
                            have LMc51 := Aside0.mk c51
                            clear c51
                            obtain ⟨y510, hy510⟩ : ∃ y_ : List Bool, y_ = (x15_2 ++ [true]) := ⟨_, rfl⟩
                            replace H : (cambiumlaw03_DevWhole.l1 k2 a2 t498 t499 false y510 l0_2 (l0_2.length : Int) (wrap64 (x63_2 + 1)) a0_0 l0_1 l0_2 a0_3 a0_4) = some r := by first | (rw [hy510]; with_reducible exact H) | (have H2_ := (Option.bind_some _ _).symm.trans H; rw [hy510]; with_reducible exact H2_) | (have H2_ := (Option.bind_some _ _).symm.trans H; with_reducible exact H2_) | with_reducible exact H | (rw [hy510]; exact H) | exact H
                            have Ny510 := Aside0.mk hy510
                            clear hy510
                            have H' := Aside0.mk H
                            clear H
                            have p502 : 0 ≤ (x63_2 : Int) := of_decide_eq_true (by first | (with_reducible assumption) | assumption)
                            have q502 : x63_2 < (l0_2.length : Int) := of_decide_eq_true (by first | (with_reducible assumption) | assumption)
                            obtain ⟨ad502, e502, hx502_0, hx502_1⟩ := at_T39 HR0_2.out x63_2 p502 q502
                            cases e502
                            replace hx502_0 := (HB.out.cell (World.block_lt_of_cell? w _ hx502_0)).trans hx502_0
                            replace hx502_1 := (HB.out.cell (World.block_lt_of_cell? w _ hx502_1)).trans hx502_1
                            replace p502 := eq_true p502
                            replace q502 := eq_true q502
                            go_wp2_with (first | ((with_reducible refine gate_dst (N := 17) rfl ?_); refine bx_ (N := 17) (cs := #[.int .u32 0, .string (⟨#[]⟩ : ByteArray)]) (t := 39) ?_; intro gb503 hg w52 hbox hb; have BK503 := Aside0.mk (hbox); have GW503 := ge_ hg; have GE503 := ge_ hg; have NB485_503 := nl_ BK485 hg; have NB503_485 := ng_ BK485 hg; have NB497_503 := nl_ BK497 hg; have NB503_497 := ng_ BK497 hg; replace HO_15 := rb_ HO_15 hb; replace HO_498001 := Aside0.mk (Kd.R_below (Kd.R_elderB (ra_ HO_498001) gb503 (Nat.le_of_eq hg.symm)) hb); replace HO_498002 := Aside0.mk (Kd.R_below (Kd.R_elderB (ra_ HO_498002) gb503 (Nat.le_of_eq hg.symm)) hb); replace BK485 := kb_ BK485 hb; replace BK497 := kb_ BK497 hb; replace HB := hb_ hb; clear hb hbox hg; have hnb53 := NB503_485.out; have hnc53 := NB485_503.out; have hnb54 := NB503_497.out; have hnc54 := NB497_503.out; obtain ⟨hcz55_0, hcz55_1⟩ := cl2_ BK503; obtain ⟨hfz55_0, hfz55_1⟩ := fz2_ BK503) | ((with_reducible refine gate_builtin (b := .append) (xs := #[.tmp 80, .tmp 81]) rfl ?_); at_builtin; refine Kd.R_append Kd.bool (w0 := w) w.heap.size rfl (.tmp 80) (.tmp 81) 37 4 (.bool false) 1 rfl Tryd.underlying37 info4 rfl (by decide) (by omega) u15 x15_2 true [.bool true] (fun _ => True) (fun _ => False) rfl (by first | (go_simp; done) | (go_simp; rfl)) ?aP (fun _ hk => hk.elim) ?aF ?aO ?aB ?aS ?aL ?_; (case aP => exact rfl); (case aB => exact bel_); (case aF => exact (fun _ _ => trivial)); (case aO => exact (by (with_reducible repeat (first | apply Kd.R_alloc | apply Kd.R_drewN | apply Kd.R_drew)); exact Kd.R_mono (Kd.R_far (p := ⟨gb503, 1, none⟩) (Kd.R_far (p := ⟨gb503, 0, none⟩) (Kd.R_types HO_15.out BK503.out (by decide)) (fun _ hk => hk.2) (.int .u32 ((rd_T39 l0_2 x63_2).f0))) (fun _ hk => hk.2) (.string ((rd_T39 l0_2 x63_2).f1))) (fun _ hk => trivial))); (case aS => exact (below_size bel_)); (case aL => have := LMc51.out; omega); intro v511 w56 ho hb hg hat; rw [← Ny510.out] at ho; have HO512 := Aside0.mk (ho); replace HO_498001 := Aside0.mk (Kd.R_over' (by (with_reducible repeat (first | apply Kd.R_alloc | apply Kd.R_drewN | apply Kd.R_drew)); exact (Kd.R_mono (Kd.R_far (p := ⟨gb503, 1, none⟩) (Kd.R_far (p := ⟨gb503, 0, none⟩) (Kd.R_mono HO_498001.out (fun k_ hk => (⟨hk, hk.2⟩ : _ ∧ k_ ≠ gb503))) (fun _ hk => hk.2) (.int .u32 ((rd_T39 l0_2 x63_2).f0))) (fun _ hk => hk.2) (.string ((rd_T39 l0_2 x63_2).f1))) (fun _ h_ => h_.1))) (Kd.R_typed (rw_ HO_15)) (by decide) hg); replace HO_498002 := Aside0.mk (Kd.R_over' (by (with_reducible repeat (first | apply Kd.R_alloc | apply Kd.R_drewN | apply Kd.R_drew)); exact (Kd.R_mono (Kd.R_far (p := ⟨gb503, 1, none⟩) (Kd.R_far (p := ⟨gb503, 0, none⟩) (Kd.R_mono HO_498002.out (fun k_ hk => (⟨hk, hk.2⟩ : _ ∧ k_ ≠ gb503))) (fun _ hk => hk.2) (.int .u32 ((rd_T39 l0_2 x63_2).f0))) (fun _ hk => hk.2) (.string ((rd_T39 l0_2 x63_2).f1))) (fun _ h_ => h_.1))) (Kd.R_typed (rw_ HO_15)) (by decide) hg); replace BK485 := Aside0.mk (blk_grown (g := gb485) (o := .cells #[.int .u32 a0_0, .slice A0_1 l0_1.length c0_1, .slice (some ad502) l0_2.length c0_2, .bool a0_3, .int .i64 a0_4] 25 (0, 0)) (bs_) hg (Kd.R_ne HO_15.out BK485.out (by decide))); replace BK497 := Aside0.mk (blk_grown (g := gb497) (o := .cells #[.int .u32 t487, .slice Ao16 t488.length co16, .slice Ao17 t491.length co17, .bool t494, .int .i64 t495] 25 (0, 0)) (bs_) hg (Kd.R_ne HO_15.out BK497.out (by decide))); replace HB := Aside0.mk (hb); replace BK503 := Aside0.mk (blk_grown (g := gb503) (o := .cells #[.int .u32 ((rd_T39 l0_2 x63_2).f0), .string ((rd_T39 l0_2 x63_2).f1)] 39 (0, 0)) (bs_) hg (Kd.R_ne HO_15.out BK503.out (by decide))); clear HO_15; clear ho hb hg hat))
                            go_roundg k2
                            case measure => have := HK1.out; have := HK2.out; omega
                            case rel => exact ⟨(false), (y510), (wrap64 (x63_2 + 1)), (by first | rfl | (simp; done) | (simp [*]; done)), (by first | rfl | (simp; done) | (simp [*]; done)), H', ⟨by have := HK1.out; have := HK2.out; omega⟩, ⟨ra_ HO512⟩, ⟨by (with_reducible repeat (first | apply Kd.R_alloc | apply Kd.R_drewN | apply Kd.R_drew)); exact Kd.R_mono HO_498001.out (fun _ hk => hk.1)⟩, ⟨by (with_reducible repeat (first | apply Kd.R_alloc | apply Kd.R_drewN | apply Kd.R_drew)); exact Kd.R_mono HO_498002.out (fun _ hk => hk.1)⟩, ⟨bk_ BK485⟩, ⟨bk_ BK497⟩, ⟨bel_⟩⟩
                          · rw [if_neg c51] at H
                            exact absurd H (by simp)
                    · rw [if_neg c36] at H
                      exact absurd H (by simp)
                  · rw [if_neg c35] at H
                    exact absurd H (by simp)
                · rw [if_neg c34] at H
                  have c34b0 : decide (x63_2 < (l0_2.length : Int)) = false := decide_eq_false c34
                  clear c34
                  replace H := Option.bind_eq_some_iff.mp H
                  obtain ⟨⟨t513, t514, t517, t520, t521, t522⟩, A570, H⟩ := H
                  replace H : ((dev_Read.f k2 t513 t514 t517 t520 t521 a2).bind fun bt524 => ((dev_Read.f k2 a0_0 l0_1 l0_2 a0_3 a0_4 a2).bind fun bt526 => (if t499 = 0 then (if x14_2 = true then (if t522 = 0 then (if bt524.2 = 0 then (if bt526.2 = 0 then (if bt524.1.toList = bt526.1.toList then (some true) else (if bt526.2 = 17 then (some a0_3) else (some false))) else (if bt526.2 = 17 then (some a0_3) else (some false))) else (some false)) else (some false)) else (some false)) else (if t499 = 1 then (some (bt524.2 == t499)) else (some false))))) = some r := H
                  have A57 := Aside0.mk A570
                  clear A570
                  replace H := Option.bind_eq_some_iff.mp H
                  obtain ⟨⟨t524, t525⟩, A580, H⟩ := H
                  replace H : ((dev_Read.f k2 a0_0 l0_1 l0_2 a0_3 a0_4 a2).bind fun bt526 => (if t499 = 0 then (if x14_2 = true then (if t522 = 0 then (if t525 = 0 then (if bt526.2 = 0 then (if t524.toList = bt526.1.toList then (some true) else (if bt526.2 = 17 then (some a0_3) else (some false))) else (if bt526.2 = 17 then (some a0_3) else (some false))) else (some false)) else (some false)) else (some false)) else (if t499 = 1 then (some (t525 == t499)) else (some false)))) = some r := H
                  have A58 := Aside0.mk A580
                  clear A580
                  replace H := Option.bind_eq_some_iff.mp H
                  obtain ⟨⟨t526, t527⟩, A590, H⟩ := H
                  replace H : (if t499 = 0 then (if x14_2 = true then (if t522 = 0 then (if t525 = 0 then (if t527 = 0 then (if t524.toList = t526.toList then (some true) else (if t527 = 17 then (some a0_3) else (some false))) else (if t527 = 17 then (some a0_3) else (some false))) else (some false)) else (some false)) else (some false)) else (if t499 = 1 then (some (t525 == t499)) else (some false))) = some r := H
                  have A59 := Aside0.mk A590
                  clear A590
                  by_cases c60 : t499 = 0
                  · rw [if_pos c60] at H
                    have c60b0 : (t499 == 0) = true := beq_iff_eq.mpr c60
                    have c60b1 : (t499 != 0) = false := bne_eq_false_iff_eq.mpr c60
                    clear c60
                    by_cases c61 : x14_2 = true
                    · subst c61
                      have H1 : (if t522 = 0 then (if t525 = 0 then (if t527 = 0 then (if t524.toList = t526.toList then (some true) else (if t527 = 17 then (some a0_3) else (some false))) else (if t527 = 17 then (some a0_3) else (some false))) else (some false)) else (some false)) = some r := by rw [if_pos rfl] at H; exact H
                      clear H
                      have H := H1
                      clear H1
                      by_cases c62 : t522 = 0
                      · rw [if_pos c62] at H
                        have c62b0 : (t522 == 0) = true := beq_iff_eq.mpr c62
                        have c62b1 : (t522 != 0) = false := bne_eq_false_iff_eq.mpr c62
                        clear c62
                        by_cases c63 : t525 = 0
                        · rw [if_pos c63] at H
                          have c63b0 : (t525 == 0) = true := beq_iff_eq.mpr c63
                          have c63b1 : (t525 != 0) = false := bne_eq_false_iff_eq.mpr c63
                          clear c63
                          by_cases c64 : t527 = 0
                          · rw [if_pos c64] at H
                            have c64b0 : (t527 == 0) = true := beq_iff_eq.mpr c64
                            have c64b1 : (t527 != 0) = false := bne_eq_false_iff_eq.mpr c64
                            clear c64
                            by_cases c65 : t524.toList = t526.toList
                            · rw [if_pos c65] at H
                              have c65b0 : (t524.toList == t526.toList) = true := beq_iff_eq.mpr c65
                              have c65b1 : (t524.toList != t526.toList) = false := bne_eq_false_iff_eq.mpr c65
                              clear c65
                              obtain rfl := Option.some.inj H
                              have hnb66 := NB485_497.out
                              have hnc66 := NB497_485.out
                              obtain ⟨hcz67_0, hcz67_1, hcz67_2, hcz67_3, hcz67_4⟩ := cl5_ BK485
                              obtain ⟨hfz67_0, hfz67_1, hfz67_2, hfz67_3, hfz67_4⟩ := fz5_ BK485
                              obtain ⟨Ao68, co68, eo68⟩ := Kd.R_slice HO_15.out
                              subst eo68
                              go_wp2_with (first | ((with_reducible refine gate_callee (f := 23) rfl ?_); refine gl_ (some 87) Tryd.func23 #[.agg #[.int .u32 a0_0, .slice A0_1 l0_1.length c0_1, .slice A0_2 l0_2.length c0_2, .bool a0_3, .int .i64 a0_4], .slice Ao68 x15_2.length co68] ?_; (with_reducible refine (dev_Crash.calls k2 a0_0 _ _ l0_1 _ _ l0_2 a0_3 a0_4 _ _ x15_2 t513 t514 t517 t520 t521 t522 _ ?side1 ?side2 ?side3 ?side4 ?side5 ?side6 A57.out).mono ?_); (case side1 => exact cb_ HR0_1); (case side2 => exact HC0_1.out); (case side3 => exact cb_ HR0_2); (case side4 => exact HC0_2.out); (case side5 => exact cr_ HO_15); (case side6 => exact (Kd.R_reads' HO_15.out).2.1); rintro e w69 ⟨v515, v518, rfl, ho0, ho1, hb⟩; refine ⟨_, rfl, ?_⟩; have HO516 := Aside0.mk (Kd.R_lower (Kd.R_new' (Kd.R_new' ho0 (Kd.R_lt (ra_ HO_498001))) (Kd.R_lt (ra_ HO_498002))) (below_size bel_)); have HO519 := Aside0.mk (Kd.R_lower (Kd.R_new' (Kd.R_new' ho1 (Kd.R_lt (ra_ HO_498001))) (Kd.R_lt (ra_ HO_498002))) (below_size bel_)); replace HO_15 := rb_ HO_15 hb; replace HO_498001 := Aside0.mk (Kd.R_mono (Kd.R_told (Kd.R_told (Kd.R_old (ra_ HO_498001) hb) (Kd.R_base ho0)) (Kd.R_base ho1)) (fun _ h_ => h_.1)); replace HO_498002 := Aside0.mk (Kd.R_mono (Kd.R_told (Kd.R_told (Kd.R_old (ra_ HO_498002) hb) (Kd.R_base ho0)) (Kd.R_base ho1)) (fun _ h_ => h_.1)); replace BK485 := kb_ BK485 hb; replace BK497 := kb_ BK497 hb; replace HB := hb_ hb; (try clear hb); (try clear hb2); (try clear hk); (try clear hi); (try clear ho0); (try clear ho1)) | ((with_reducible refine gate_dst (N := 18) rfl ?_); refine bx_ (N := 18) (cs := #[.int .u32 0, .slice none 0 0, .slice none 0 0, .bool false, .int .i64 0]) (t := 25) ?_; intro gb523 hg w70 hbox hb; have BK523 := Aside0.mk (hbox); have GW523 := ge_ hg; have GE523 := ge_ hg; have NB485_523 := nl_ BK485 hg; have NB523_485 := ng_ BK485 hg; have NB497_523 := nl_ BK497 hg; have NB523_497 := ng_ BK497 hg; replace HO_15 := rb_ HO_15 hb; replace HO_498001 := rb_ HO_498001 hb; replace HO_498002 := rb_ HO_498002 hb; replace HO516 := rb_ HO516 hb; replace HO519 := rb_ HO519 hb; replace BK485 := kb_ BK485 hb; replace BK497 := kb_ BK497 hb; replace HB := hb_ hb; clear hb hbox hg; have hnb71 := NB523_485.out; have hnc71 := NB485_523.out; have hnb72 := NB523_497.out; have hnc72 := NB497_523.out; obtain ⟨hcz73_0, hcz73_1, hcz73_2, hcz73_3, hcz73_4⟩ := cl5_ BK523; obtain ⟨hfz73_0, hfz73_1, hfz73_2, hfz73_3, hfz73_4⟩ := fz5_ BK523; obtain ⟨Ao74, co74, eo74⟩ := Kd.R_slice HO516.out; subst eo74; obtain ⟨Ao75, co75, eo75⟩ := Kd.R_slice HO519.out; subst eo75) | ((with_reducible refine gate_callee (f := 17) rfl ?_); refine gl_ (some 93) Tryd.func17 #[.agg #[.int .u32 t513, .slice Ao74 t514.length co74, .slice Ao75 t517.length co75, .bool t520, .int .i64 t521], .int .u32 a2] ?_; (with_reducible refine (dev_Read.calls k2 t513 _ _ t514 _ _ t517 t520 t521 a2 t524 t525 _ ?side1 ?side2 ?side3 ?side4 A58.out).mono ?_); (case side1 => exact (Kd.R_reads' (rw_ HO516)).2.2); (case side2 => exact (Kd.R_reads' HO516.out).2.1); (case side3 => exact (Kd.R_reads' (rw_ HO519)).2.2); (case side4 => exact (Kd.R_reads' HO519.out).2.1); rintro e w76 ⟨rfl, hb⟩; refine ⟨_, rfl, ?_⟩; replace HO_15 := Aside0.mk (Kd.R_below (rw_ HO_15) hb); replace HO_498001 := Aside0.mk (Kd.R_below (rw_ HO_498001) hb); replace HO_498002 := Aside0.mk (Kd.R_below (rw_ HO_498002) hb); replace HO516 := Aside0.mk (Kd.R_below (rw_ HO516) hb); replace HO519 := Aside0.mk (Kd.R_below (rw_ HO519) hb); replace BK485 := Aside0.mk (blk_below (g := gb485) (o := .cells #[.int .u32 a0_0, .slice A0_1 l0_1.length c0_1, .slice A0_2 l0_2.length c0_2, .bool a0_3, .int .i64 a0_4] 25 (0, 0)) (bs_) hb); replace BK497 := Aside0.mk (blk_below (g := gb497) (o := .cells #[.int .u32 t487, .slice Ao16 t488.length co16, .slice Ao17 t491.length co17, .bool t494, .int .i64 t495] 25 (0, 0)) (bs_) hb); replace HB := hb_ hb; replace BK523 := Aside0.mk (blk_below (g := gb523) (o := .cells #[.int .u32 t513, .slice Ao74 t514.length co74, .slice Ao75 t517.length co75, .bool t520, .int .i64 t521] 25 (0, 0)) (bs_) hb); (try clear hb); (try clear hb2); (try clear hk); (try clear hi); obtain ⟨hcz77_0, hcz77_1, hcz77_2, hcz77_3, hcz77_4⟩ := cl5_ BK485; obtain ⟨hfz77_0, hfz77_1, hfz77_2, hfz77_3, hfz77_4⟩ := fz5_ BK485) | ((with_reducible refine gate_callee (f := 17) rfl ?_); refine gl_ (some 99) Tryd.func17 #[.agg #[.int .u32 a0_0, .slice A0_1 l0_1.length c0_1, .slice A0_2 l0_2.length c0_2, .bool a0_3, .int .i64 a0_4], .int .u32 a2] ?_; (with_reducible refine (dev_Read.calls k2 a0_0 _ _ l0_1 _ _ l0_2 a0_3 a0_4 a2 t526 t527 _ ?side1 ?side2 ?side3 ?side4 A59.out).mono ?_); (case side1 => exact cb_ HR0_1); (case side2 => exact HC0_1.out); (case side3 => exact cb_ HR0_2); (case side4 => exact HC0_2.out); rintro e w78 ⟨rfl, hb⟩; refine ⟨_, rfl, ?_⟩; replace HO_15 := rb_ HO_15 hb; replace HO_498001 := rb_ HO_498001 hb; replace HO_498002 := rb_ HO_498002 hb; replace HO516 := rb_ HO516 hb; replace HO519 := rb_ HO519 hb; replace BK485 := kb_ BK485 hb; replace BK497 := kb_ BK497 hb; replace BK523 := kb_ BK523 hb; replace HB := hb_ hb; (try clear hb); (try clear hb2); (try clear hk); (try clear hi)))
                              go_ret
                              exact ⟨by first | rfl | (simp [errW_none, errW_some] <;> rfl) | (simp [*, errW_none, errW_some] <;> rfl), bel_⟩
                            · rw [if_neg c65] at H
                              have c65b0 : (t524.toList == t526.toList) = false := beq_eq_false_iff_ne.mpr c65
                              have c65b1 : (t524.toList != t526.toList) = true := bne_iff_ne.mpr c65
                              by_cases c79 : t527 = 17
                              · rw [if_pos c79] at H
                                have c79b0 : (t527 == 17) = true := beq_iff_eq.mpr c79
                                have c79b1 : (t527 != 17) = false := bne_eq_false_iff_eq.mpr c79
                                clear c79
                                obtain rfl := Option.some.inj H
                                have hnb80 := NB485_497.out
                                have hnc80 := NB497_485.out
                                obtain ⟨hcz81_0, hcz81_1, hcz81_2, hcz81_3, hcz81_4⟩ := cl5_ BK485
                                obtain ⟨hfz81_0, hfz81_1, hfz81_2, hfz81_3, hfz81_4⟩ := fz5_ BK485
                                obtain ⟨Ao82, co82, eo82⟩ := Kd.R_slice HO_15.out
                                subst eo82
                                go_wp2_with (first | ((with_reducible refine gate_callee (f := 23) rfl ?_); refine gl_ (some 87) Tryd.func23 #[.agg #[.int .u32 a0_0, .slice A0_1 l0_1.length c0_1, .slice A0_2 l0_2.length c0_2, .bool a0_3, .int .i64 a0_4], .slice Ao82 x15_2.length co82] ?_; (with_reducible refine (dev_Crash.calls k2 a0_0 _ _ l0_1 _ _ l0_2 a0_3 a0_4 _ _ x15_2 t513 t514 t517 t520 t521 t522 _ ?side1 ?side2 ?side3 ?side4 ?side5 ?side6 A57.out).mono ?_); (case side1 => exact cb_ HR0_1); (case side2 => exact HC0_1.out); (case side3 => exact cb_ HR0_2); (case side4 => exact HC0_2.out); (case side5 => exact cr_ HO_15); (case side6 => exact (Kd.R_reads' HO_15.out).2.1); rintro e w83 ⟨v515, v518, rfl, ho0, ho1, hb⟩; refine ⟨_, rfl, ?_⟩; have HO516 := Aside0.mk (Kd.R_lower (Kd.R_new' (Kd.R_new' ho0 (Kd.R_lt (ra_ HO_498001))) (Kd.R_lt (ra_ HO_498002))) (below_size bel_)); have HO519 := Aside0.mk (Kd.R_lower (Kd.R_new' (Kd.R_new' ho1 (Kd.R_lt (ra_ HO_498001))) (Kd.R_lt (ra_ HO_498002))) (below_size bel_)); replace HO_15 := rb_ HO_15 hb; replace HO_498001 := Aside0.mk (Kd.R_mono (Kd.R_told (Kd.R_told (Kd.R_old (ra_ HO_498001) hb) (Kd.R_base ho0)) (Kd.R_base ho1)) (fun _ h_ => h_.1)); replace HO_498002 := Aside0.mk (Kd.R_mono (Kd.R_told (Kd.R_told (Kd.R_old (ra_ HO_498002) hb) (Kd.R_base ho0)) (Kd.R_base ho1)) (fun _ h_ => h_.1)); replace BK485 := kb_ BK485 hb; replace BK497 := kb_ BK497 hb; replace HB := hb_ hb; (try clear hb); (try clear hb2); (try clear hk); (try clear hi); (try clear ho0); (try clear ho1)) | ((with_reducible refine gate_dst (N := 18) rfl ?_); refine bx_ (N := 18) (cs := #[.int .u32 0, .slice none 0 0, .slice none 0 0, .bool false, .int .i64 0]) (t := 25) ?_; intro gb523 hg w84 hbox hb; have BK523 := Aside0.mk (hbox); have GW523 := ge_ hg; have GE523 := ge_ hg; have NB485_523 := nl_ BK485 hg; have NB523_485 := ng_ BK485 hg; have NB497_523 := nl_ BK497 hg; have NB523_497 := ng_ BK497 hg; replace HO_15 := rb_ HO_15 hb; replace HO_498001 := rb_ HO_498001 hb; replace HO_498002 := rb_ HO_498002 hb; replace HO516 := rb_ HO516 hb; replace HO519 := rb_ HO519 hb; replace BK485 := kb_ BK485 hb; replace BK497 := kb_ BK497 hb; replace HB := hb_ hb; clear hb hbox hg; have hnb85 := NB523_485.out; have hnc85 := NB485_523.out; have hnb86 := NB523_497.out; have hnc86 := NB497_523.out; obtain ⟨hcz87_0, hcz87_1, hcz87_2, hcz87_3, hcz87_4⟩ := cl5_ BK523; obtain ⟨hfz87_0, hfz87_1, hfz87_2, hfz87_3, hfz87_4⟩ := fz5_ BK523; obtain ⟨Ao88, co88, eo88⟩ := Kd.R_slice HO516.out; subst eo88; obtain ⟨Ao89, co89, eo89⟩ := Kd.R_slice HO519.out; subst eo89) | ((with_reducible refine gate_callee (f := 17) rfl ?_); refine gl_ (some 93) Tryd.func17 #[.agg #[.int .u32 t513, .slice Ao88 t514.length co88, .slice Ao89 t517.length co89, .bool t520, .int .i64 t521], .int .u32 a2] ?_; (with_reducible refine (dev_Read.calls k2 t513 _ _ t514 _ _ t517 t520 t521 a2 t524 t525 _ ?side1 ?side2 ?side3 ?side4 A58.out).mono ?_); (case side1 => exact (Kd.R_reads' (rw_ HO516)).2.2); (case side2 => exact (Kd.R_reads' HO516.out).2.1); (case side3 => exact (Kd.R_reads' (rw_ HO519)).2.2); (case side4 => exact (Kd.R_reads' HO519.out).2.1); rintro e w90 ⟨rfl, hb⟩; refine ⟨_, rfl, ?_⟩; replace HO_15 := Aside0.mk (Kd.R_below (rw_ HO_15) hb); replace HO_498001 := Aside0.mk (Kd.R_below (rw_ HO_498001) hb); replace HO_498002 := Aside0.mk (Kd.R_below (rw_ HO_498002) hb); replace HO516 := Aside0.mk (Kd.R_below (rw_ HO516) hb); replace HO519 := Aside0.mk (Kd.R_below (rw_ HO519) hb); replace BK485 := Aside0.mk (blk_below (g := gb485) (o := .cells #[.int .u32 a0_0, .slice A0_1 l0_1.length c0_1, .slice A0_2 l0_2.length c0_2, .bool a0_3, .int .i64 a0_4] 25 (0, 0)) (bs_) hb); replace BK497 := Aside0.mk (blk_below (g := gb497) (o := .cells #[.int .u32 t487, .slice Ao16 t488.length co16, .slice Ao17 t491.length co17, .bool t494, .int .i64 t495] 25 (0, 0)) (bs_) hb); replace HB := hb_ hb; replace BK523 := Aside0.mk (blk_below (g := gb523) (o := .cells #[.int .u32 t513, .slice Ao88 t514.length co88, .slice Ao89 t517.length co89, .bool t520, .int .i64 t521] 25 (0, 0)) (bs_) hb); (try clear hb); (try clear hb2); (try clear hk); (try clear hi); obtain ⟨hcz91_0, hcz91_1, hcz91_2, hcz91_3, hcz91_4⟩ := cl5_ BK485; obtain ⟨hfz91_0, hfz91_1, hfz91_2, hfz91_3, hfz91_4⟩ := fz5_ BK485) | ((with_reducible refine gate_callee (f := 17) rfl ?_); refine gl_ (some 99) Tryd.func17 #[.agg #[.int .u32 a0_0, .slice A0_1 l0_1.length c0_1, .slice A0_2 l0_2.length c0_2, .bool a0_3, .int .i64 a0_4], .int .u32 a2] ?_; (with_reducible refine (dev_Read.calls k2 a0_0 _ _ l0_1 _ _ l0_2 a0_3 a0_4 a2 t526 t527 _ ?side1 ?side2 ?side3 ?side4 A59.out).mono ?_); (case side1 => exact cb_ HR0_1); (case side2 => exact HC0_1.out); (case side3 => exact cb_ HR0_2); (case side4 => exact HC0_2.out); rintro e w92 ⟨rfl, hb⟩; refine ⟨_, rfl, ?_⟩; replace HO_15 := rb_ HO_15 hb; replace HO_498001 := rb_ HO_498001 hb; replace HO_498002 := rb_ HO_498002 hb; replace HO516 := rb_ HO516 hb; replace HO519 := rb_ HO519 hb; replace BK485 := kb_ BK485 hb; replace BK497 := kb_ BK497 hb; replace BK523 := kb_ BK523 hb; replace HB := hb_ hb; (try clear hb); (try clear hb2); (try clear hk); (try clear hi); obtain ⟨hcz93_0, hcz93_1, hcz93_2, hcz93_3, hcz93_4⟩ := cl5_ BK485; obtain ⟨hfz93_0, hfz93_1, hfz93_2, hfz93_3, hfz93_4⟩ := fz5_ BK485))
                                go_ret
                                exact ⟨by first | rfl | (simp [errW_none, errW_some] <;> rfl) | (simp [*, errW_none, errW_some] <;> rfl), bel_⟩
                              · rw [if_neg c79] at H
                                have c79b0 : (t527 == 17) = false := beq_eq_false_iff_ne.mpr c79
                                have c79b1 : (t527 != 17) = true := bne_iff_ne.mpr c79
                                exact absurd ((Option.some.inj H).trans HT_.out) (by simp)
                          · rw [if_neg c64] at H
                            have c64b0 : (t527 == 0) = false := beq_eq_false_iff_ne.mpr c64
                            have c64b1 : (t527 != 0) = true := bne_iff_ne.mpr c64
                            by_cases c94 : t527 = 17
                            · rw [if_pos c94] at H
                              have c94b0 : (t527 == 17) = true := beq_iff_eq.mpr c94
                              have c94b1 : (t527 != 17) = false := bne_eq_false_iff_eq.mpr c94
                              clear c94
                              obtain rfl := Option.some.inj H
                              have hnb95 := NB485_497.out
                              have hnc95 := NB497_485.out
                              obtain ⟨hcz96_0, hcz96_1, hcz96_2, hcz96_3, hcz96_4⟩ := cl5_ BK485
                              obtain ⟨hfz96_0, hfz96_1, hfz96_2, hfz96_3, hfz96_4⟩ := fz5_ BK485
                              obtain ⟨Ao97, co97, eo97⟩ := Kd.R_slice HO_15.out
                              subst eo97
                              go_wp2_with (first | ((with_reducible refine gate_callee (f := 23) rfl ?_); refine gl_ (some 87) Tryd.func23 #[.agg #[.int .u32 a0_0, .slice A0_1 l0_1.length c0_1, .slice A0_2 l0_2.length c0_2, .bool a0_3, .int .i64 a0_4], .slice Ao97 x15_2.length co97] ?_; (with_reducible refine (dev_Crash.calls k2 a0_0 _ _ l0_1 _ _ l0_2 a0_3 a0_4 _ _ x15_2 t513 t514 t517 t520 t521 t522 _ ?side1 ?side2 ?side3 ?side4 ?side5 ?side6 A57.out).mono ?_); (case side1 => exact cb_ HR0_1); (case side2 => exact HC0_1.out); (case side3 => exact cb_ HR0_2); (case side4 => exact HC0_2.out); (case side5 => exact cr_ HO_15); (case side6 => exact (Kd.R_reads' HO_15.out).2.1); rintro e w98 ⟨v515, v518, rfl, ho0, ho1, hb⟩; refine ⟨_, rfl, ?_⟩; have HO516 := Aside0.mk (Kd.R_lower (Kd.R_new' (Kd.R_new' ho0 (Kd.R_lt (ra_ HO_498001))) (Kd.R_lt (ra_ HO_498002))) (below_size bel_)); have HO519 := Aside0.mk (Kd.R_lower (Kd.R_new' (Kd.R_new' ho1 (Kd.R_lt (ra_ HO_498001))) (Kd.R_lt (ra_ HO_498002))) (below_size bel_)); replace HO_15 := rb_ HO_15 hb; replace HO_498001 := Aside0.mk (Kd.R_mono (Kd.R_told (Kd.R_told (Kd.R_old (ra_ HO_498001) hb) (Kd.R_base ho0)) (Kd.R_base ho1)) (fun _ h_ => h_.1)); replace HO_498002 := Aside0.mk (Kd.R_mono (Kd.R_told (Kd.R_told (Kd.R_old (ra_ HO_498002) hb) (Kd.R_base ho0)) (Kd.R_base ho1)) (fun _ h_ => h_.1)); replace BK485 := kb_ BK485 hb; replace BK497 := kb_ BK497 hb; replace HB := hb_ hb; (try clear hb); (try clear hb2); (try clear hk); (try clear hi); (try clear ho0); (try clear ho1)) | ((with_reducible refine gate_dst (N := 18) rfl ?_); refine bx_ (N := 18) (cs := #[.int .u32 0, .slice none 0 0, .slice none 0 0, .bool false, .int .i64 0]) (t := 25) ?_; intro gb523 hg w99 hbox hb; have BK523 := Aside0.mk (hbox); have GW523 := ge_ hg; have GE523 := ge_ hg; have NB485_523 := nl_ BK485 hg; have NB523_485 := ng_ BK485 hg; have NB497_523 := nl_ BK497 hg; have NB523_497 := ng_ BK497 hg; replace HO_15 := rb_ HO_15 hb; replace HO_498001 := rb_ HO_498001 hb; replace HO_498002 := rb_ HO_498002 hb; replace HO516 := rb_ HO516 hb; replace HO519 := rb_ HO519 hb; replace BK485 := kb_ BK485 hb; replace BK497 := kb_ BK497 hb; replace HB := hb_ hb; clear hb hbox hg; have hnb100 := NB523_485.out; have hnc100 := NB485_523.out; have hnb101 := NB523_497.out; have hnc101 := NB497_523.out; obtain ⟨hcz102_0, hcz102_1, hcz102_2, hcz102_3, hcz102_4⟩ := cl5_ BK523; obtain ⟨hfz102_0, hfz102_1, hfz102_2, hfz102_3, hfz102_4⟩ := fz5_ BK523; obtain ⟨Ao103, co103, eo103⟩ := Kd.R_slice HO516.out; subst eo103; obtain ⟨Ao104, co104, eo104⟩ := Kd.R_slice HO519.out; subst eo104) | ((with_reducible refine gate_callee (f := 17) rfl ?_); refine gl_ (some 93) Tryd.func17 #[.agg #[.int .u32 t513, .slice Ao103 t514.length co103, .slice Ao104 t517.length co104, .bool t520, .int .i64 t521], .int .u32 a2] ?_; (with_reducible refine (dev_Read.calls k2 t513 _ _ t514 _ _ t517 t520 t521 a2 t524 t525 _ ?side1 ?side2 ?side3 ?side4 A58.out).mono ?_); (case side1 => exact (Kd.R_reads' (rw_ HO516)).2.2); (case side2 => exact (Kd.R_reads' HO516.out).2.1); (case side3 => exact (Kd.R_reads' (rw_ HO519)).2.2); (case side4 => exact (Kd.R_reads' HO519.out).2.1); rintro e w105 ⟨rfl, hb⟩; refine ⟨_, rfl, ?_⟩; replace HO_15 := Aside0.mk (Kd.R_below (rw_ HO_15) hb); replace HO_498001 := Aside0.mk (Kd.R_below (rw_ HO_498001) hb); replace HO_498002 := Aside0.mk (Kd.R_below (rw_ HO_498002) hb); replace HO516 := Aside0.mk (Kd.R_below (rw_ HO516) hb); replace HO519 := Aside0.mk (Kd.R_below (rw_ HO519) hb); replace BK485 := Aside0.mk (blk_below (g := gb485) (o := .cells #[.int .u32 a0_0, .slice A0_1 l0_1.length c0_1, .slice A0_2 l0_2.length c0_2, .bool a0_3, .int .i64 a0_4] 25 (0, 0)) (bs_) hb); replace BK497 := Aside0.mk (blk_below (g := gb497) (o := .cells #[.int .u32 t487, .slice Ao16 t488.length co16, .slice Ao17 t491.length co17, .bool t494, .int .i64 t495] 25 (0, 0)) (bs_) hb); replace HB := hb_ hb; replace BK523 := Aside0.mk (blk_below (g := gb523) (o := .cells #[.int .u32 t513, .slice Ao103 t514.length co103, .slice Ao104 t517.length co104, .bool t520, .int .i64 t521] 25 (0, 0)) (bs_) hb); (try clear hb); (try clear hb2); (try clear hk); (try clear hi); obtain ⟨hcz106_0, hcz106_1, hcz106_2, hcz106_3, hcz106_4⟩ := cl5_ BK485; obtain ⟨hfz106_0, hfz106_1, hfz106_2, hfz106_3, hfz106_4⟩ := fz5_ BK485) | ((with_reducible refine gate_callee (f := 17) rfl ?_); refine gl_ (some 99) Tryd.func17 #[.agg #[.int .u32 a0_0, .slice A0_1 l0_1.length c0_1, .slice A0_2 l0_2.length c0_2, .bool a0_3, .int .i64 a0_4], .int .u32 a2] ?_; (with_reducible refine (dev_Read.calls k2 a0_0 _ _ l0_1 _ _ l0_2 a0_3 a0_4 a2 t526 t527 _ ?side1 ?side2 ?side3 ?side4 A59.out).mono ?_); (case side1 => exact cb_ HR0_1); (case side2 => exact HC0_1.out); (case side3 => exact cb_ HR0_2); (case side4 => exact HC0_2.out); rintro e w107 ⟨rfl, hb⟩; refine ⟨_, rfl, ?_⟩; replace HO_15 := rb_ HO_15 hb; replace HO_498001 := rb_ HO_498001 hb; replace HO_498002 := rb_ HO_498002 hb; replace HO516 := rb_ HO516 hb; replace HO519 := rb_ HO519 hb; replace BK485 := kb_ BK485 hb; replace BK497 := kb_ BK497 hb; replace BK523 := kb_ BK523 hb; replace HB := hb_ hb; (try clear hb); (try clear hb2); (try clear hk); (try clear hi); obtain ⟨hcz108_0, hcz108_1, hcz108_2, hcz108_3, hcz108_4⟩ := cl5_ BK485; obtain ⟨hfz108_0, hfz108_1, hfz108_2, hfz108_3, hfz108_4⟩ := fz5_ BK485))
                              go_ret
                              exact ⟨by first | rfl | (simp [errW_none, errW_some] <;> rfl) | (simp [*, errW_none, errW_some] <;> rfl), bel_⟩
                            · rw [if_neg c94] at H
                              have c94b0 : (t527 == 17) = false := beq_eq_false_iff_ne.mpr c94
                              have c94b1 : (t527 != 17) = true := bne_iff_ne.mpr c94
                              exact absurd ((Option.some.inj H).trans HT_.out) (by simp)
                        · rw [if_neg c63] at H
                          have c63b0 : (t525 == 0) = false := beq_eq_false_iff_ne.mpr c63
                          have c63b1 : (t525 != 0) = true := bne_iff_ne.mpr c63
                          exact absurd ((Option.some.inj H).trans HT_.out) (by simp)
                      · rw [if_neg c62] at H
                        have c62b0 : (t522 == 0) = false := beq_eq_false_iff_ne.mpr c62
                        have c62b1 : (t522 != 0) = true := bne_iff_ne.mpr c62
                        exact absurd ((Option.some.inj H).trans HT_.out) (by simp)
                    · replace c61 := Bool.eq_false_iff.mpr c61
                      subst c61
                      have H1 : (some false) = some r := by rw [if_neg (show ¬ (false = true) by decide)] at H; exact H
                      clear H
                      have H := H1
                      clear H1
                      exact absurd ((Option.some.inj H).trans HT_.out) (by simp)
                  · rw [if_neg c60] at H
                    have c60b0 : (t499 == 0) = false := beq_eq_false_iff_ne.mpr c60
                    have c60b1 : (t499 != 0) = true := bne_iff_ne.mpr c60
                    by_cases c109 : t499 = 1
                    · rw [if_pos c109] at H
                      have c109b0 : (t499 == 1) = true := beq_iff_eq.mpr c109
                      have c109b1 : (t499 != 1) = false := bne_eq_false_iff_eq.mpr c109
                      clear c109
                      obtain rfl := Option.some.inj H
                      have hnb110 := NB485_497.out
                      have hnc110 := NB497_485.out
                      obtain ⟨hcz111_0, hcz111_1, hcz111_2, hcz111_3, hcz111_4⟩ := cl5_ BK485
                      obtain ⟨hfz111_0, hfz111_1, hfz111_2, hfz111_3, hfz111_4⟩ := fz5_ BK485
                      obtain ⟨Ao112, co112, eo112⟩ := Kd.R_slice HO_15.out
                      subst eo112
                      go_wp2_with (first | ((with_reducible refine gate_callee (f := 23) rfl ?_); refine gl_ (some 87) Tryd.func23 #[.agg #[.int .u32 a0_0, .slice A0_1 l0_1.length c0_1, .slice A0_2 l0_2.length c0_2, .bool a0_3, .int .i64 a0_4], .slice Ao112 x15_2.length co112] ?_; (with_reducible refine (dev_Crash.calls k2 a0_0 _ _ l0_1 _ _ l0_2 a0_3 a0_4 _ _ x15_2 t513 t514 t517 t520 t521 t522 _ ?side1 ?side2 ?side3 ?side4 ?side5 ?side6 A57.out).mono ?_); (case side1 => exact cb_ HR0_1); (case side2 => exact HC0_1.out); (case side3 => exact cb_ HR0_2); (case side4 => exact HC0_2.out); (case side5 => exact cr_ HO_15); (case side6 => exact (Kd.R_reads' HO_15.out).2.1); rintro e w113 ⟨v515, v518, rfl, ho0, ho1, hb⟩; refine ⟨_, rfl, ?_⟩; have HO516 := Aside0.mk (Kd.R_lower (Kd.R_new' (Kd.R_new' ho0 (Kd.R_lt (ra_ HO_498001))) (Kd.R_lt (ra_ HO_498002))) (below_size bel_)); have HO519 := Aside0.mk (Kd.R_lower (Kd.R_new' (Kd.R_new' ho1 (Kd.R_lt (ra_ HO_498001))) (Kd.R_lt (ra_ HO_498002))) (below_size bel_)); replace HO_15 := rb_ HO_15 hb; replace HO_498001 := Aside0.mk (Kd.R_mono (Kd.R_told (Kd.R_told (Kd.R_old (ra_ HO_498001) hb) (Kd.R_base ho0)) (Kd.R_base ho1)) (fun _ h_ => h_.1)); replace HO_498002 := Aside0.mk (Kd.R_mono (Kd.R_told (Kd.R_told (Kd.R_old (ra_ HO_498002) hb) (Kd.R_base ho0)) (Kd.R_base ho1)) (fun _ h_ => h_.1)); replace BK485 := kb_ BK485 hb; replace BK497 := kb_ BK497 hb; replace HB := hb_ hb; (try clear hb); (try clear hb2); (try clear hk); (try clear hi); (try clear ho0); (try clear ho1)) | ((with_reducible refine gate_dst (N := 18) rfl ?_); refine bx_ (N := 18) (cs := #[.int .u32 0, .slice none 0 0, .slice none 0 0, .bool false, .int .i64 0]) (t := 25) ?_; intro gb523 hg w114 hbox hb; have BK523 := Aside0.mk (hbox); have GW523 := ge_ hg; have GE523 := ge_ hg; have NB485_523 := nl_ BK485 hg; have NB523_485 := ng_ BK485 hg; have NB497_523 := nl_ BK497 hg; have NB523_497 := ng_ BK497 hg; replace HO_15 := rb_ HO_15 hb; replace HO_498001 := rb_ HO_498001 hb; replace HO_498002 := rb_ HO_498002 hb; replace HO516 := rb_ HO516 hb; replace HO519 := rb_ HO519 hb; replace BK485 := kb_ BK485 hb; replace BK497 := kb_ BK497 hb; replace HB := hb_ hb; clear hb hbox hg; have hnb115 := NB523_485.out; have hnc115 := NB485_523.out; have hnb116 := NB523_497.out; have hnc116 := NB497_523.out; obtain ⟨hcz117_0, hcz117_1, hcz117_2, hcz117_3, hcz117_4⟩ := cl5_ BK523; obtain ⟨hfz117_0, hfz117_1, hfz117_2, hfz117_3, hfz117_4⟩ := fz5_ BK523; obtain ⟨Ao118, co118, eo118⟩ := Kd.R_slice HO516.out; subst eo118; obtain ⟨Ao119, co119, eo119⟩ := Kd.R_slice HO519.out; subst eo119) | ((with_reducible refine gate_callee (f := 17) rfl ?_); refine gl_ (some 93) Tryd.func17 #[.agg #[.int .u32 t513, .slice Ao118 t514.length co118, .slice Ao119 t517.length co119, .bool t520, .int .i64 t521], .int .u32 a2] ?_; (with_reducible refine (dev_Read.calls k2 t513 _ _ t514 _ _ t517 t520 t521 a2 t524 t525 _ ?side1 ?side2 ?side3 ?side4 A58.out).mono ?_); (case side1 => exact (Kd.R_reads' (rw_ HO516)).2.2); (case side2 => exact (Kd.R_reads' HO516.out).2.1); (case side3 => exact (Kd.R_reads' (rw_ HO519)).2.2); (case side4 => exact (Kd.R_reads' HO519.out).2.1); rintro e w120 ⟨rfl, hb⟩; refine ⟨_, rfl, ?_⟩; replace HO_15 := Aside0.mk (Kd.R_below (rw_ HO_15) hb); replace HO_498001 := Aside0.mk (Kd.R_below (rw_ HO_498001) hb); replace HO_498002 := Aside0.mk (Kd.R_below (rw_ HO_498002) hb); replace HO516 := Aside0.mk (Kd.R_below (rw_ HO516) hb); replace HO519 := Aside0.mk (Kd.R_below (rw_ HO519) hb); replace BK485 := Aside0.mk (blk_below (g := gb485) (o := .cells #[.int .u32 a0_0, .slice A0_1 l0_1.length c0_1, .slice A0_2 l0_2.length c0_2, .bool a0_3, .int .i64 a0_4] 25 (0, 0)) (bs_) hb); replace BK497 := Aside0.mk (blk_below (g := gb497) (o := .cells #[.int .u32 t487, .slice Ao16 t488.length co16, .slice Ao17 t491.length co17, .bool t494, .int .i64 t495] 25 (0, 0)) (bs_) hb); replace HB := hb_ hb; replace BK523 := Aside0.mk (blk_below (g := gb523) (o := .cells #[.int .u32 t513, .slice Ao118 t514.length co118, .slice Ao119 t517.length co119, .bool t520, .int .i64 t521] 25 (0, 0)) (bs_) hb); (try clear hb); (try clear hb2); (try clear hk); (try clear hi); obtain ⟨hcz121_0, hcz121_1, hcz121_2, hcz121_3, hcz121_4⟩ := cl5_ BK485; obtain ⟨hfz121_0, hfz121_1, hfz121_2, hfz121_3, hfz121_4⟩ := fz5_ BK485) | ((with_reducible refine gate_callee (f := 17) rfl ?_); refine gl_ (some 99) Tryd.func17 #[.agg #[.int .u32 a0_0, .slice A0_1 l0_1.length c0_1, .slice A0_2 l0_2.length c0_2, .bool a0_3, .int .i64 a0_4], .int .u32 a2] ?_; (with_reducible refine (dev_Read.calls k2 a0_0 _ _ l0_1 _ _ l0_2 a0_3 a0_4 a2 t526 t527 _ ?side1 ?side2 ?side3 ?side4 A59.out).mono ?_); (case side1 => exact cb_ HR0_1); (case side2 => exact HC0_1.out); (case side3 => exact cb_ HR0_2); (case side4 => exact HC0_2.out); rintro e w122 ⟨rfl, hb⟩; refine ⟨_, rfl, ?_⟩; replace HO_15 := rb_ HO_15 hb; replace HO_498001 := rb_ HO_498001 hb; replace HO_498002 := rb_ HO_498002 hb; replace HO516 := rb_ HO516 hb; replace HO519 := rb_ HO519 hb; replace BK485 := kb_ BK485 hb; replace BK497 := kb_ BK497 hb; replace BK523 := kb_ BK523 hb; replace HB := hb_ hb; (try clear hb); (try clear hb2); (try clear hk); (try clear hi)))
                      go_ret
                      exact ⟨by first | rfl | (simp [errW_none, errW_some] <;> rfl) | (simp [*, errW_none, errW_some] <;> rfl), bel_⟩
                    · rw [if_neg c109] at H
                      have c109b0 : (t499 == 1) = false := beq_eq_false_iff_ne.mpr c109
                      have c109b1 : (t499 != 1) = true := bne_iff_ne.mpr c109
                      exact absurd ((Option.some.inj H).trans HT_.out) (by simp)
    · rw [if_neg c7] at H
      have c7b0 : (t496 == 0) = false := beq_eq_false_iff_ne.mpr c7
      have c7b1 : (t496 != 0) = true := bne_iff_ne.mpr c7
      obtain rfl := Option.some.inj H
      go_enter Tryd.func5, Tryd.ntmps5
      go_wp2_with (first | ((with_reducible refine gate_dst (N := 3) rfl ?_); refine bx_ (N := 3) (cs := #[.int .u32 a0_0, .slice A0_1 l0_1.length c0_1, .slice A0_2 l0_2.length c0_2, .bool a0_3, .int .i64 a0_4]) (t := 25) ?_; intro gb485 hg w123 hbox hb; have BK485 := Aside0.mk (hbox); have GW485 := ge_ hg; have GE485 := ge_ hg; replace HB := hb_ hb; clear hb hbox hg) | ((with_reducible refine gate_callee (f := 19) rfl ?_); refine gl_ (some 24) Tryd.func19 #[] ?_; (with_reducible refine (cambiumlaw03_lives.calls k  true _ A4.out).mono ?_); rintro e w124 ⟨rfl, hb⟩; refine ⟨_, rfl, ?_⟩; replace BK485 := kb_ BK485 hb; replace HB := hb_ hb; (try clear hb); (try clear hb2); (try clear hk); (try clear hi); obtain ⟨hcz125_0, hcz125_1, hcz125_2, hcz125_3, hcz125_4⟩ := cl5_ BK485; obtain ⟨hfz125_0, hfz125_1, hfz125_2, hfz125_3, hfz125_4⟩ := fz5_ BK485) | ((with_reducible refine gate_callee (f := 23) rfl ?_); refine gl_ (some 29) Tryd.func23 #[.agg #[.int .u32 a0_0, .slice A0_1 l0_1.length c0_1, .slice A0_2 l0_2.length c0_2, .bool a0_3, .int .i64 a0_4], .slice A1 l1.length c1] ?_; (with_reducible refine (dev_Crash.calls k a0_0 _ _ l0_1 _ _ l0_2 a0_3 a0_4 _ _ l1 t487 t488 t491 t494 t495 t496 _ ?side1 ?side2 ?side3 ?side4 ?side5 ?side6 A6.out).mono ?_); (case side1 => exact cb_ HR0_1); (case side2 => exact HC0_1.out); (case side3 => exact cb_ HR0_2); (case side4 => exact HC0_2.out); (case side5 => exact cb_ HR1); (case side6 => exact HC1.out); rintro e w126 ⟨v489, v492, rfl, ho0, ho1, hb⟩; refine ⟨_, rfl, ?_⟩; have HO490 := rl_ ho0; have HO493 := rl_ ho1; replace BK485 := kb_ BK485 hb; replace HB := hb_ hb; (try clear hb); (try clear hb2); (try clear hk); (try clear hi); (try clear ho0); (try clear ho1)) | ((with_reducible refine gate_dst (N := 7) rfl ?_); refine bx_ (N := 7) (cs := #[.int .u32 0, .slice none 0 0, .slice none 0 0, .bool false, .int .i64 0]) (t := 25) ?_; intro gb497 hg w127 hbox hb; have BK497 := Aside0.mk (hbox); have GW497 := ge_ hg; have GE497 := ge_ hg; have NB485_497 := nl_ BK485 hg; have NB497_485 := ng_ BK485 hg; replace HO490 := rb_ HO490 hb; replace HO493 := rb_ HO493 hb; replace BK485 := kb_ BK485 hb; replace HB := hb_ hb; clear hb hbox hg; have hnb128 := NB497_485.out; have hnc128 := NB485_497.out; obtain ⟨hcz129_0, hcz129_1, hcz129_2, hcz129_3, hcz129_4⟩ := cl5_ BK497; obtain ⟨hfz129_0, hfz129_1, hfz129_2, hfz129_3, hfz129_4⟩ := fz5_ BK497; obtain ⟨Ao130, co130, eo130⟩ := Kd.R_slice HO490.out; subst eo130; obtain ⟨Ao131, co131, eo131⟩ := Kd.R_slice HO493.out; subst eo131))
      go_ret
      exact ⟨by first | rfl | (simp [errW_none, errW_some] <;> rfl) | (simp [*, errW_none, errW_some] <;> rfl), bel_⟩
  · replace c5 := Bool.eq_false_iff.mpr c5
    subst c5
    have H1 : (some false) = some r := by rw [if_neg (show ¬ (false = true) by decide)] at H; exact H
    clear H
    have H := H1
    clear H1
    exact absurd ((Option.some.inj H).trans HT_.out) (by simp)

end Go.Proofs.YtcphflfjhkeooaaDoor.Z
end

section
/- DevWhole, over numbers and lists: the law's function answers true. -/
namespace Go.Proofs.YtcphflfjhkeooaaDoor.Pure
open Go.RowKit Go.Proofs.YtcphflfjhkeooaaDoor Go.Proofs.YtcphflfjhkeooaaDoor.Z Go.Proofs.YtcphflfjhkeooaaDoorW.PrintWords
set_option linter.unusedVariables false
theorem DevWhole : ∀ (a0_0 : Int) (l0_1 : List (S39)) (l0_2 : List (S39)) (a0_3 : Bool) (a0_4 : Int) (l1 : List Bool) (a2 : Int), (Lit.int .u32 a0_0).wf = true → l0_1.length ≤ maxLen → (∀ x ∈ l0_1, Z.G39 x) → l0_2.length ≤ maxLen → (∀ x ∈ l0_2, Z.G39 x) → (Lit.int .i64 a0_4).wf = true → l1.length ≤ maxLen → (∀ x ∈ l1, (fun _ : Bool => True) x) → l1.length * 1 ≤ 140737488351232 → (Lit.int .u32 a2).wf = true → ∃ k, Z.cambiumlaw03_DevWhole.f k a0_0 l0_1 l0_2 a0_3 a0_4 l1 a2 = some true := by
  intro s bl wl d f ke n hs hl1 hg1 hl2 hg2 hf hkl hkg hkz hn
  refine Ev.rounds (g := fun r => Z.cambiumlaw03_DevWhole.f r s bl wl d f ke n) ?_
  have hn := (wf32 hn).1
  have hi : Inp s bl wl := inp hg1 hg2 hl1
  unfold cambiumlaw03_DevWhole.f
  refine Ev.bind lives_f (Ev.ifp rfl ?_)
  by_cases ok : okDev s bl wl
  · refine Ev.bind (crash_ok ok d f ke) ?_
    have ok2 := okDev_crash ok ke
    unfold crashS at ok2 ⊢
    refine Ev.ifp rfl (Ev.bind (read_ok ok2 false (-1) n) ?_)
    have hbl := okDev_len ok
    have hwl := ok.2.2.1
    generalize hR : readS s (putsL bl (kept wl ke)) [] false n = R
    have okA := okDev_crash ok (List.replicate wl.length true)
    unfold crashS at okA
    rw [kept_all wl _ (Nat.le_refl _)] at okA
    dsimp only at okA
    have fin : ∀ (c : Bool), (R.2 = 0 → c = true) → Ev (fun k => (dev_Crash.f k s bl wl d f (List.replicate wl.length true)).bind fun bt513 => ((dev_Read.f k bt513.1 bt513.2.1 bt513.2.2.1 bt513.2.2.2.1 bt513.2.2.2.2.1 n).bind fun bt524 => ((dev_Read.f k s bl wl d f n).bind fun bt526 => (if R.2 = 0 then (if c = true then (if bt513.2.2.2.2.2 = 0 then (if bt524.2 = 0 then (if bt526.2 = 0 then (if bt524.1.toList = bt526.1.toList then (some true) else (if bt526.2 = 17 then (some d) else (some false))) else (if bt526.2 = 17 then (some d) else (some false))) else (some false)) else (some false)) else (some false)) else (if R.2 = 1 then (some (bt524.2 == R.2)) else (some false)))))) true := by
      intro c hc
      refine Ev.bind (crash_ok ok d f _) ?_
      unfold crashS
      rw [kept_all wl _ (Nat.le_refl _)]
      refine Ev.bind (read_ok okA false (-1) n) (Ev.bind (read_ok ok d f n) ?_)
      have hsec : R.2 = (readS s (putsL bl wl) [] false n).2 := by
        rw [← hR]; exact readS_err _ _ _ _ _ _ _
      by_cases h0 : R.2 = 0
      · rw [hc h0]
        refine Ev.ifp h0 (Ev.ifp rfl (Ev.ifp rfl (Ev.ifp (hsec ▸ h0) ?_)))
        cases d with
        | true => exact Ev.ifn (by unfold readS; rw [if_pos rfl]; decide) (Ev.ifp (by unfold readS; rw [if_pos rfl]) (Ev.const rfl))
        | false =>
          have e : readS s (putsL bl wl) [] false n = readS s bl wl false n := by
            unfold readS
            rw [readL_nil, has_puts wl ok.2.2.2.1.1]
          rw [← e]
          exact Ev.ifp (hsec ▸ h0) (Ev.ifp rfl (Ev.const rfl))
      · have h1 : R.2 = 1 := by
          rw [← hR] at h0 ⊢
          unfold readS at h0 ⊢
          rw [if_neg (by simp)] at h0 ⊢
          split at h0
          · rw [if_pos ‹_›]
          · exact absurd rfl h0
        refine Ev.ifn h0 (Ev.ifp h1 (Ev.const ?_))
        rw [← hsec]; simp
    -- the second loop
    have lp1 : ∀ dd i : Nat, wl.length = i + dd → ∀ c : Bool, (R.2 = 0 → c = true ∨ ∃ j, ∃ h : j < wl.length, i ≤ j ∧ wl[j].f0 = n ∧ wl[j].f1 = R.1) →
        Ev (fun k => cambiumlaw03_DevWhole.l1 k n R.1 R.2 c (List.replicate i true) wl (wl.length : Int) (i : Int) s bl wl d f) true := by
      intro dd
      induction dd with
      | zero =>
        intro i hi2 c hc
        refine Ev.step (fun k => by rw [cambiumlaw03_DevWhole.l1]) ?_
        have : i = wl.length := by omega
        subst this
        refine Ev.ifn (by omega) (fin c (fun h0 => ?_))
        rcases hc h0 with h | ⟨j, h1, h2, _⟩
        · exact h
        · omega
      | succ dd ih =>
        intro i hi2 c hc
        have hlt : i < wl.length := by omega
        refine Ev.step (fun k => by rw [cambiumlaw03_DevWhole.l1]) ?_
        refine Ev.ifp (by omega) (Ev.ifp (by omega) (Ev.ifp (by omega) ?_))
        rw [show wrap64 ((i : Int) + 1) = ((i + 1 : Nat) : Int) by rw [w64 (by omega) (by omega)]; omega, rd_get wl i hlt]
        have hrep : List.replicate i true ++ [true] = List.replicate (i + 1) true := by rw [List.replicate_succ']
        have hle : (List.replicate i true).length < 140737488355328 := by rw [List.length_replicate]; omega
        rw [hrep]
        cases c with
        | true => exact Ev.ifp rfl (Ev.ifp hle (ih (i + 1) (by omega) true (fun _ => .inl rfl)))
        | false =>
          refine Ev.ifn (by simp) (Ev.ite (fun hq => ?_) (fun hq => ?_))
          · refine Ev.ifp hle (ih (i + 1) (by omega) _ (fun h0 => ?_))
            rcases hc h0 with h | ⟨j, h1, h2, h3, h4⟩
            · cases h
            · rcases Nat.lt_or_ge i j with hij | hij
              · exact .inr ⟨j, h1, hij, h3, h4⟩
              · have : j = i := by omega
                subst this
                left; rw [h4]; simp
          · refine Ev.ifp hle (ih (i + 1) (by omega) _ (fun h0 => ?_))
            rcases hc h0 with h | ⟨j, h1, h2, h3, h4⟩
            · cases h
            · rcases Nat.lt_or_ge i j with hij | hij
              · exact .inr ⟨j, h1, hij, h3, h4⟩
              · have : j = i := by omega
                subst this
                exact absurd h3 hq
    -- the first loop
    have hrise := asc_steps.2 ok.2.2.2.1.1
    have lp0 : ∀ dd i : Nat, bl.length = i + dd → ∀ v : ByteArray, ((has bl n = v ∧ ∀ j (h : j < bl.length), i ≤ j → bl[j].f0 ≠ n) ∨ (v = ⟨#[]⟩ ∧ ∀ j (h : j < bl.length), j < i → bl[j].f0 ≠ n)) →
        Ev (fun k => cambiumlaw03_DevWhole.l0 k n R.1 R.2 v bl (bl.length : Int) (i : Int) s bl wl d f) true := by
      intro dd
      induction dd with
      | zero =>
        intro i hi2 v hv
        refine Ev.step (fun k => by rw [cambiumlaw03_DevWhole.l0]) ?_
        refine Ev.ifn (by omega) (lp1 wl.length 0 (by omega) _ (fun h0 => ?_))
        have hv : has bl n = v := by
          rcases hv with ⟨h, _⟩ | ⟨h, h2⟩
          · exact h
          · rw [h, has_none]
            intro y hy
            obtain ⟨j, hj, rfl⟩ := List.mem_iff_getElem.1 hy
            exact h2 j hj (by omega)
        have hval : R.1 = has (putsL bl (kept wl ke)) n := by
          rw [← hR] at h0 ⊢
          unfold readS at h0 ⊢
          rw [if_neg (by simp)] at h0 ⊢
          split at h0
          · cases h0
          · rw [if_neg ‹_›]; rfl
        rw [has_puts _ ok.2.2.2.1.1] at hval
        unfold readL at hval
        cases hf : (kept wl ke).reverse.find? (fun x => x.f0 == n) with
        | some y =>
          rw [hf] at hval
          have hy := List.mem_of_find?_eq_some hf
          rw [List.mem_reverse] at hy
          obtain ⟨j, hj, e⟩ := List.mem_iff_getElem.1 (kept_mem hy)
          have hp := List.find?_some hf
          exact .inr ⟨j, hj, Nat.zero_le _, by rw [e]; simpa using hp, by rw [e, hval]⟩
        | none =>
          rw [hf] at hval
          left
          rw [hval, ← hv]; simp
      | succ dd ih =>
        intro i hi2 v hv
        have hlt : i < bl.length := by omega
        refine Ev.step (fun k => by rw [cambiumlaw03_DevWhole.l0]) ?_
        refine Ev.ifp (by omega) (Ev.ifp (by omega) (Ev.ifp (by omega) ?_))
        rw [show wrap64 ((i : Int) + 1) = ((i + 1 : Nat) : Int) by rw [w64 (by omega) (by omega)]; omega, rd_get bl i hlt]
        refine Ev.ite (fun hc => ih (i + 1) (by omega) _ (.inl ⟨?_, fun j hj hij e => ?_⟩)) (fun hc => ih (i + 1) (by omega) _ ?_)
        · rw [← hc]; exact has_mem ok.2.2.2.1.1 (List.getElem_mem hlt)
        · have := (List.pairwise_iff_getElem.1 ok.2.2.2.1.1) i j hlt hj (by omega)
          omega
        · rcases hv with ⟨h1, h2⟩ | ⟨h1, h2⟩
          · exact .inl ⟨h1, fun j hj hij => h2 j hj (by omega)⟩
          · refine .inr ⟨h1, fun j hj hij => ?_⟩
            rcases Nat.lt_or_ge j i with h3 | h3
            · exact h2 j hj h3
            · have : j = i := by omega
              subst this; exact hc
    exact lp0 bl.length 0 (by omega) _ (.inr ⟨rfl, fun j _ h => by omega⟩)
  · refine Ev.bind (crash_bad ok hi d f ke) ?_
    exact Ev.ifn (by decide) (Ev.const rfl)
end Go.Proofs.YtcphflfjhkeooaaDoor.Pure
end

section
/- cambium/cambiumlaw03.DevWhole: at every input the law's function returns true, and each argument reads afterwards as before. Conditions: none beyond the row's own. Printed by a program of this session (mp.py) over the pure statement in YtcphflfjhkeooaaDoorPureDevWhole. -/
namespace Go.Proofs.YtcphflfjhkeooaaDoor.devWhole
open Go.ChangeShapes Go.WideShapes Go.ChangeAt Go.RowKit
open Go.ChangeMaps (open_string shut_string)
set_option linter.unusedVariables false
set_option linter.unusedSimpArgs false
theorem own : ownKnob Tryd.prog.godebug = none := by kernel_rfl
theorem laidOut : laidOutB Tryd.prog = true := by kernel_rfl
theorem lstOf5 {α : Type} (l : List α) (h : l.length = 5) : ∃ z0 z1 z2 z3 z4, l = [z0, z1, z2, z3, z4] := by
  match l, h with
  | [z0, z1, z2, z3, z4], _ => exact ⟨z0, z1, z2, z3, z4, rfl⟩
theorem arrOf5 {α : Type} (a : Array α) (h : a.toList.length = 5) : ∃ z0 z1 z2 z3 z4, a = #[z0, z1, z2, z3, z4] := by
  obtain ⟨l⟩ := a
  obtain ⟨z0, z1, z2, z3, z4, rfl⟩ := lstOf5 l h
  exact ⟨z0, z1, z2, z3, z4, rfl⟩
def lay0 : Obj → Obj
  | .cells _ t frozen => .cells (((Pinned.numbers IntKind.u8 Pinned.utf8FirstZ : List (DataW Unit)).map (fun x => match x with | .lit (.int k v) => Value.int k v | _ => .int .u8 0)).toArray) t frozen
  | o => o
def lay1 : Obj → Obj
  | .cells _ t frozen => .cells #[.int .u8 128, .int .u8 191, .int .u8 160, .int .u8 191, .int .u8 128, .int .u8 159, .int .u8 144, .int .u8 191, .int .u8 128, .int .u8 143, .int .u8 0, .int .u8 0, .int .u8 0, .int .u8 0, .int .u8 0, .int .u8 0, .int .u8 0, .int .u8 0, .int .u8 0, .int .u8 0, .int .u8 0, .int .u8 0, .int .u8 0, .int .u8 0, .int .u8 0, .int .u8 0, .int .u8 0, .int .u8 0, .int .u8 0, .int .u8 0, .int .u8 0, .int .u8 0] t frozen
  | o => o
noncomputable def laidWorld (os : Os) : World :=
  { World.holding Tryd.prog os ⟨#[], #[], []⟩ with heap := ((World.holding Tryd.prog os ⟨#[], #[], []⟩).heap.modify 0 lay0).modify 1 lay1 }
theorem laid_met (os : Os) : laidMet Tryd.prog Rows.devWholeRow.laid ((laidWorld os).forCall (fun _ _ => 0) ⟨#[], #[.agg #[.int .u32 0, .slice none 0 0, .slice none 0 0, .bool false, .int .i64 0], .slice none 0 0, .int .u32 0], []⟩).memory :=
  laidMet_of_run' 8 (by kernel_rfl) (by kernel_rfl)
theorem reads (os : Os) {H : Type} (enc : TypeId × Value → H) : ∃ places, DataW.whole enc Tryd.prog ((laidWorld os).forCall (fun _ _ => 0) ⟨#[], #[.agg #[.int .u32 0, .slice none 0 0, .slice none 0 0, .bool false, .int .i64 0], .slice none 0 0, .int .u32 0], []⟩).memory Tryd.f5.params.toList Rows.devWholeSpec.vars false (#[.agg #[.int .u32 0, .slice none 0 0, .slice none 0 0, .bool false, .int .i64 0], .slice none 0 0, .int .u32 0] : Array Value).toList 8 = some ([.agg [.lit (.int .u32 0), .nil, .nil, .lit (.bool false), .lit (.int .i64 0)], .nil, .lit (.int .u32 0)], [], places) :=
  ⟨[], by kernel_rfl⟩
set_option maxHeartbeats 1000000 in
set_option maxRecDepth 100000 in
theorem lifted (os : Os) (started : os.Started) (H : Type) (enc : TypeId × Value → H) (F : Stop.Interp) :
    ReturnsInHanded {} Tryd.checked os 5 .any ((OpenSpec.ofChange Rows.devWholeSpec).preRow enc Tryd.prog Tryd.f5 Rows.devWholeRow.domain false Rows.devWholeRow.laid) (((OpenSpec.ofChange Rows.devWholeSpec).at F).post enc Tryd.prog Tryd.f5 false true false false) := by
  obtain ⟨places, hx⟩ := reads os enc
  refine returnsInHanded_of_row (C := Tryd.checked) (s := OpenSpec.ofChange Rows.devWholeSpec) own started (by kernel_rfl) Tryd.func5
    (witness_row_at (enc := enc) (C := Tryd.checked) false (laidWorld os) #[.agg #[.int .u32 0, .slice none 0 0, .slice none 0 0, .bool false, .int .i64 0], .slice none 0 0, .int .u32 0] rfl (by kernel_rfl) (by kernel_rfl) (by kernel_rfl)
      (OpenSpec.preRow_of_cond 8 hx (by kernel_rfl) (fun k hk => by cases hk) (by kernel_rfl) (laid_met os))) ?_
  intro W base args ds gs before hval0 hW hcn0_ hcnd hwz_ _ _ _
  have hsz : (DataW.weightsEach Tryd.prog (Tryd.f5.params.toList ++ Rows.devWholeSpec.plain.varTypes Tryd.prog) (ds ++ gs)).all (· ≤ reachBytes) = true := hwz_
  have hval : ∀ (j : Nat) t v, Tryd.f5.params[j]? = some t → args[j]? = some v → Value.okWide Tryd.prog W .any base t v := hval0
  have hW' := hW
  obtain ⟨p, q, hA0, hV, rfl, hfz, hnd⟩ := hW
  have hA : DataW.TrodAll enc Tryd.prog W 0 (fun _ => true) true Tryd.f5.params.toList args.toList ds p := hA0
  rw [Tryd.params5] at hA hval hsz
  obtain ⟨v0, vs0, d0, ds0, p0, q0, hargs, rfl, rfl, h0, r0⟩ := trodAll_cons hA
  obtain ⟨v1, vs1, d1, ds1, p1, q1, rfl, rfl, rfl, h1, r1⟩ := trodAll_cons r0
  obtain ⟨v2, vs2, d2, ds2, p2, q2, rfl, rfl, rfl, h2, r2⟩ := trodAll_cons r1
  obtain ⟨rfl, rfl, rfl⟩ := trodAll_nil r2
  obtain rfl : args = #[v0, v1, v2] := by cases args; simp_all
  obtain ⟨rfl, rfl⟩ := trodVars_none hV
  have k0 := h0
  have lt0 : ∀ x ∈ p0, x.block < W.heap.size := by obtain ⟨m, hm⟩ := k0; exact DataW.trod_lt m _ _ _ hm
  obtain ⟨cs0, rfl, hsz_0⟩ := okWide_struct Tryd.underlying25 (hval 0 25 v0 rfl rfl)
  obtain ⟨fuel0, hf0⟩ := h0
  obtain ⟨ys0, n0, hl0, hy0, hx0, hfs0⟩ := Z.flat_fields Tryd.underlying25 (by kernel_rfl) (by kernel_rfl) hf0
  obtain ⟨q0_0, q0_1, q0_2, q0_3, q0_4, rfl⟩ := arrOf5 cs0 hl0
  obtain ⟨r0_0, r0_1, r0_2, r0_3, r0_4, rfl⟩ := lstOf5 ys0 hy0
  obtain ⟨a0_0, hk0_0, hG0_0, hB0_0⟩ := (Z.Opens.int Tryd.underlying22 (by kernel_rfl)).2 (hfs0 0 _ q0_0 rfl rfl)
  have hk0_0' : [q0_0] = [.int .u32 a0_0] := hk0_0
  simp only [List.cons.injEq, and_true] at hk0_0'
  subst hk0_0'
  clear hk0_0
  obtain ⟨A0_1, c0_1, l0_1, hcs0_1, hlc0_1, hcm0_1, hC0_1, hG0_1, hB0_1, hx0_1⟩ := Z.Opens.row Tryd.underlying23 Z.opens39 (of_decide_eq_true (by kernel_rfl)) (hfs0 1 _ q0_1 rfl rfl)
  simp only [List.cons.injEq, and_true] at hcs0_1
  subst hcs0_1
  have hlm0_1 : l0_1.length ≤ maxLen := Nat.le_trans hlc0_1 hcm0_1
  obtain ⟨A0_2, c0_2, l0_2, hcs0_2, hlc0_2, hcm0_2, hC0_2, hG0_2, hB0_2, hx0_2⟩ := Z.Opens.row Tryd.underlying23 Z.opens39 (of_decide_eq_true (by kernel_rfl)) (hfs0 2 _ q0_2 rfl rfl)
  simp only [List.cons.injEq, and_true] at hcs0_2
  subst hcs0_2
  have hlm0_2 : l0_2.length ≤ maxLen := Nat.le_trans hlc0_2 hcm0_2
  obtain ⟨a0_3, hk0_3, hG0_3, hB0_3⟩ := (Z.Opens.bool Tryd.underlying4 (by kernel_rfl)).2 (hfs0 3 _ q0_3 rfl rfl)
  have hk0_3' : [q0_3] = [.bool a0_3] := hk0_3
  simp only [List.cons.injEq, and_true] at hk0_3'
  subst hk0_3'
  clear hk0_3
  obtain ⟨a0_4, hk0_4, hG0_4, hB0_4⟩ := (Z.Opens.int Tryd.underlying3 (by kernel_rfl)).2 (hfs0 4 _ q0_4 rfl rfl)
  have hk0_4' : [q0_4] = [.int .i64 a0_4] := hk0_4
  simp only [List.cons.injEq, and_true] at hk0_4'
  subst hk0_4'
  clear hk0_4
  have k1 := h1
  have lt1 : ∀ x ∈ p1, x.block < W.heap.size := by obtain ⟨m, hm⟩ := k1; exact DataW.trod_lt m _ _ _ hm
  obtain ⟨a1, len1, cap1, rfl⟩ := okWide_slice Tryd.underlying37 (hval 1 37 v1 rfl rfl)
  obtain ⟨fuel1, hf1⟩ := h1
  obtain ⟨A1, c1, l1, hcs1, hlc1, hcm1, hC1, hG1, hB1, hx1⟩ := Z.Opens.row Tryd.underlying37 (Z.Opens.bool Tryd.underlying4 (by kernel_rfl)) (of_decide_eq_true (by kernel_rfl)) hf1
  simp only [Value.cells, List.cons.injEq, Value.slice.injEq, and_true] at hcs1
  obtain ⟨rfl, rfl, rfl⟩ := hcs1
  have hlm1 : l1.length ≤ maxLen := Nat.le_trans hlc1 hcm1
  have hsz1 : l1.length * 1 ≤ 140737488351232 := Z.sized_row hsz (j := 1) (t := 37) rfl rfl Tryd.underlying37 (by kernel_rfl) hx1
  have k2 := h2
  have lt2 : ∀ x ∈ p2, x.block < W.heap.size := by obtain ⟨m, hm⟩ := k2; exact DataW.trod_lt m _ _ _ hm
  obtain ⟨a2, rfl, rfl, rfl, w2⟩ := open_int Tryd.underlying22 (hval 2 22 v2 rfl rfl) h2
  have hP := Pure.DevWhole a0_0 l0_1 l0_2 a0_3 a0_4 l1 a2 hG0_0 hlm0_1 hG0_1 hlm0_2 hG0_2 hG0_4 hlm1 hG1 hsz1 w2
  obtain ⟨k, hk⟩ := hP
  refine (Z.cambiumlaw03_DevWhole.calls k a0_0 _ _ l0_1 _ _ l0_2 a0_3 a0_4 _ _ l1 a2 true W hC0_1 hlc0_1 hC0_2 hlc0_2 hC1 hlc1 hk).mono fun e W' ⟨he, bel0⟩ => ?_
  have bel : Below W.heap.size W W' := bel0
  subst he
  exact ⟨_, rfl, _, _, _, [], _, [], hW', trodAll_mk1 (shut_bool Tryd.underlying4 _), (trodAll_cons_mk (Below.trod laidOut (by kernel_rfl) (of_decide_eq_true (by kernel_rfl)) k0 bel lt0) (trodAll_cons_mk (Below.trod laidOut (by kernel_rfl) (of_decide_eq_true (by kernel_rfl)) k1 bel lt1) (trodAll_cons_mk (Below.trod laidOut (by kernel_rfl) (of_decide_eq_true (by kernel_rfl)) k2 bel lt2) trodAll_mk0))), rfl, bel.frame _, fun h => by cases h⟩
theorem over : Rows.DevWholeSaid :=
  OpenClaim.holds_of_cond 5 Tryd.f5 rfl rfl rfl rfl rfl rfl rfl ⟨rfl, rfl, rfl, rfl, rfl⟩ rfl rfl rfl rfl rfl (by kernel_rfl) Tryd.func5 (by kernel_rfl)
    (of_decide_eq_true (by kernel_rfl)) (by unfold Func.isWrapper; first | (rw [if_pos (by decide +kernel)]; kernel_rfl) | (rw [if_neg (by decide +kernel)]; exact ⟨rfl, rfl⟩))
    (fun os started H enc _ F => by rw [OpenClaim.pre_eq_preRow]; exact lifted os started H enc F)
theorem plain (f : FuncId) (fn : Func) (hf : Tryd.pinned.checked.prog.funcNamed "cambium/cambiumlaw03.DevWhole" = some f) (hfn : Tryd.pinned.checked.prog.funcs[f]? = some fn) :
    false = Tryd.pinned.checked.prog.looks [] ∧ ∀ (j : Nat) t, fn.params[j]? = some t → Tryd.pinned.checked.prog.wantsStandIn t = false := by
  obtain rfl : f = 5 := Option.some.inj ((show Tryd.prog.funcNamed "cambium/cambiumlaw03.DevWhole" = some 5 by kernel_rfl).symm.trans hf) |>.symm
  obtain rfl : fn = Tryd.f5 := (Option.some.inj (Tryd.func5.symm.trans hfn)).symm
  refine ⟨by kernel_rfl, fun j t ht => ?_⟩
  rw [Tryd.params5] at ht
  have hm := Array.mem_of_getElem? ht
  simp only [List.mem_toArray, List.mem_cons, List.not_mem_nil, or_false] at hm
  rcases hm with rfl | rfl | rfl <;> exact (show Tryd.prog.wantsStandIn _ = false by kernel_rfl)
theorem card : Rows.DevWholeCardSaid :=
  Claim7.holds_tied_plain_at .later [] _ _ _ _ over (fun _ h => by cases h) (by kernel_rfl) (fun _ h => by cases h) devWhole_row_tie rfl ⟨rfl, rfl⟩ (by kernel_rfl) rfl plain (by kernel_rfl)
end Go.Proofs.YtcphflfjhkeooaaDoor.devWhole
namespace Go.Proofs.YtcphflfjhkeooaaDoor
theorem devWhole_holds : Rows.DevWholeCardSaid := devWhole.card
#print axioms devWhole_holds
end Go.Proofs.YtcphflfjhkeooaaDoor
end
