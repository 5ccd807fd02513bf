/- DevRight: at every input the law's function returns true and leaves its arguments as they were; no condition beyond the row's own. Part 3 of 3: this session's own texts, laid together. -/
import Derived.Test.YtcphflfjhkeooaaDoorMB1
import Derived.Test.YtcphflfjhkeooaaDoorMB2
import Derived.Test.YtcphflfjhkeooaaDoorCards
import Derived.Test.YtcphflfjhkeooaaDoorTie
import Derived.Deep.DeepHandedRow
import Derived.WalkKit
import Derived.ProofKit
import Derived.OpenShut
import Derived.ShutString
import Derived.ChangeOld
import Derived.Below
import Derived.SizedLaws
import Derived.Carry
section
-- Printed by a program of this session (mp.py) out of the translation.
namespace Go.Proofs.YtcphflfjhkeooaaDoor.Z
open Go.RowKit Go.Proofs.YtcphflfjhkeooaaDoorW.PrintWords Go.Proofs.YtcphflfjhkeooaaDoorW.PrintLast Go.Proofs.YtcphflfjhkeooaaDoorW.PrintMore
attribute [local go_sem] max2_int min2_int max_two min_two max_three min_three max_four min_four   -- for this text's walks alone
set_option linter.unusedVariables false
set_option linter.unusedSimpArgs false

/-! ### cambiumlaw03_DevRight: function 10 -/
mutual
def cambiumlaw03_DevRight.l0 : Nat → List Bool → List (S39) → Int → Int → Int → List (S39) → List (S39) → Bool → Int → Option (Bool)
  | 0, _, _, _, _, _, _, _, _, _ => none
  | k + 1, x2, x22, x23, x24, x579000, x579001, x579002, x579003, x579004 => if x24 < x23 then (if 0 ≤ x24 then (if x24 < (x22.length : Int) then (if x24 = 30 then (some true) else ((dev_Write.f k x579000 x579001 x579002 x579003 x579004 ((rd_T39 x22 x24).f0) ((rd_T39 x22 x24).f1)).bind fun bt583 => ((dev_Spoil.f k bt583.1 bt583.2.1 bt583.2.2.1 bt583.2.2.2.1 bt583.2.2.2.2.1 ((rd_T39 x22 x24).f0) ((rd_T39 x22 x24).f1)).bind fun bt594 => ((dev_Flush.f k bt594.1 bt594.2.1 bt594.2.2.1 bt594.2.2.2.1 bt594.2.2.2.2.1).bind fun bt605 => ((dev_Crash.f k bt594.1 bt594.2.1 bt594.2.2.1 bt594.2.2.2.1 bt594.2.2.2.2.1 x2).bind fun bt616 => ((dev_Check.f k bt583.1 bt583.2.1 bt583.2.2.1 bt583.2.2.2.1 bt583.2.2.2.2.1).bind fun t627 => (if t627 = 0 then ((dev_Check.f k bt594.1 bt594.2.1 bt594.2.2.1 bt594.2.2.2.1 bt594.2.2.2.2.1).bind fun t628 => (if t628 = 0 then ((dev_Check.f k bt605.1 bt605.2.1 bt605.2.2.1 bt605.2.2.2.1 bt605.2.2.2.2.1).bind fun t629 => (if t629 = 0 then ((dev_Check.f k bt616.1 bt616.2.1 bt616.2.2.1 bt616.2.2.2.1 bt616.2.2.2.2.1).bind fun t630 => (if t630 = 0 then (cambiumlaw03_DevRight.j1 k x2 x24 x22 x23 x24 (bt616.2.2.2.2.2 != 0) bt583.1 bt583.2.1 bt583.2.2.1 bt583.2.2.2.1 bt583.2.2.2.2.1 bt605.1 bt605.2.1 bt605.2.2.1 bt605.2.2.2.1 bt605.2.2.2.2.1) else (cambiumlaw03_DevRight.j1 k x2 x24 x22 x23 x24 true bt583.1 bt583.2.1 bt583.2.2.1 bt583.2.2.2.1 bt583.2.2.2.2.1 bt605.1 bt605.2.1 bt605.2.2.1 bt605.2.2.2.1 bt605.2.2.2.2.1))) else (cambiumlaw03_DevRight.j1 k x2 x24 x22 x23 x24 true bt583.1 bt583.2.1 bt583.2.2.1 bt583.2.2.2.1 bt583.2.2.2.2.1 bt605.1 bt605.2.1 bt605.2.2.1 bt605.2.2.2.1 bt605.2.2.2.2.1))) else (cambiumlaw03_DevRight.j1 k x2 x24 x22 x23 x24 true bt583.1 bt583.2.1 bt583.2.2.1 bt583.2.2.2.1 bt583.2.2.2.2.1 bt605.1 bt605.2.1 bt605.2.2.1 bt605.2.2.2.1 bt605.2.2.2.2.1))) else (cambiumlaw03_DevRight.j1 k x2 x24 x22 x23 x24 true bt583.1 bt583.2.1 bt583.2.2.1 bt583.2.2.2.1 bt583.2.2.2.2.1 bt605.1 bt605.2.1 bt605.2.2.1 bt605.2.2.2.1 bt605.2.2.2.2.1)))))))) else (none)) else (none)) else (some true)
def cambiumlaw03_DevRight.j1 : Nat → List Bool → Int → List (S39) → Int → Int → Bool → Int → List (S39) → List (S39) → Bool → Int → Int → List (S39) → List (S39) → Bool → Int → Option (Bool)
  | 0, _, _, _, _, _, _, _, _, _, _, _, _, _, _, _, _ => none
  | k + 1, x2, x7, x22, x23, x24, x81, x594000, x594001, x594002, x594003, x594004, x616000, x616001, x616002, x616003, x616004 => if x81 = true then (some false) else (if (Int.tmod x7 2) = 1 then (cambiumlaw03_DevRight.l0 k x2 x22 x23 (wrap64 (x24 + 1)) x616000 x616001 x616002 x616003 x616004) else (cambiumlaw03_DevRight.l0 k x2 x22 x23 (wrap64 (x24 + 1)) x594000 x594001 x594002 x594003 x594004))
end
def cambiumlaw03_DevRight.f (k : Nat) (a0_0 : Int) (l0_1 : List (S39)) (l0_2 : List (S39)) (a0_3 : Bool) (a0_4 : Int) (l1 : List (S39)) (l2 : List Bool) : Option (Bool) := (cambiumlaw03_lives.f k).bind fun t579 => (if t579 = true then ((dev_Check.f k a0_0 l0_1 l0_2 a0_3 a0_4).bind fun t580 => (if t580 = 0 then (cambiumlaw03_DevRight.l0 k l2 l1 (l1.length : Int) 0 a0_0 l0_1 l0_2 a0_3 a0_4) else (some true))) else (some false))
theorem cambiumlaw03_DevRight.mono_l : ∀ k, (∀ y0 y1 y2 y3 y4 y5 y6 y7 y8, LeO (cambiumlaw03_DevRight.l0 k y0 y1 y2 y3 y4 y5 y6 y7 y8) (cambiumlaw03_DevRight.l0 (k + 1) y0 y1 y2 y3 y4 y5 y6 y7 y8)) ∧ (∀ y0 y1 y2 y3 y4 y5 y6 y7 y8 y9 y10 y11 y12 y13 y14 y15, LeO (cambiumlaw03_DevRight.j1 k y0 y1 y2 y3 y4 y5 y6 y7 y8 y9 y10 y11 y12 y13 y14 y15) (cambiumlaw03_DevRight.j1 (k + 1) y0 y1 y2 y3 y4 y5 y6 y7 y8 y9 y10 y11 y12 y13 y14 y15))
  | 0 => ⟨fun _ _ _ _ _ _ _ _ _ r h => by simp [cambiumlaw03_DevRight.l0] at h, fun _ _ _ _ _ _ _ _ _ _ _ _ _ _ _ _ r h => by simp [cambiumlaw03_DevRight.j1] at h⟩
  | k + 1 => by
    obtain ⟨ih0, ih1⟩ := cambiumlaw03_DevRight.mono_l k
    refine ⟨?_, ?_⟩
    · intro y0 y1 y2 y3 y4 y5 y6 y7 y8
      unfold cambiumlaw03_DevRight.l0
      repeat' first
      | (with_reducible exact ih0 _ _ _ _ _ _ _ _ _)
      | (with_reducible exact ih1 _ _ _ _ _ _ _ _ _ _ _ _ _ _ _ _)
      | (with_reducible exact cambiumlaw03_lives.mono _)
      | (with_reducible exact dev_Check.mono _ _ _ _ _ _)
      | (with_reducible exact dev_Crash.mono _ _ _ _ _ _ _)
      | (with_reducible exact dev_Flush.mono _ _ _ _ _ _)
      | (with_reducible exact dev_Spoil.mono _ _ _ _ _ _ _ _)
      | (with_reducible exact dev_Write.mono _ _ _ _ _ _ _ _)
      | (with_reducible exact LeO.refl _)
      | (with_reducible exact LeO.none _)
      | (with_reducible refine LeO.ite ?_ ?_)
      | (with_reducible refine LeO.bind ?_ (fun _ => ?_))
      | exact ih0 _ _ _ _ _ _ _ _ _
      | exact ih1 _ _ _ _ _ _ _ _ _ _ _ _ _ _ _ _
      | exact cambiumlaw03_lives.mono _
      | exact dev_Check.mono _ _ _ _ _ _
      | exact dev_Crash.mono _ _ _ _ _ _ _
      | exact dev_Flush.mono _ _ _ _ _ _
      | exact dev_Spoil.mono _ _ _ _ _ _ _ _
      | exact dev_Write.mono _ _ _ _ _ _ _ _
      | exact LeO.none _
      | refine LeO.ite ?_ ?_
      | refine LeO.bind ?_ (fun _ => ?_)
    · intro y0 y1 y2 y3 y4 y5 y6 y7 y8 y9 y10 y11 y12 y13 y14 y15
      unfold cambiumlaw03_DevRight.j1
      repeat' first
      | (with_reducible exact ih0 _ _ _ _ _ _ _ _ _)
      | (with_reducible exact ih1 _ _ _ _ _ _ _ _ _ _ _ _ _ _ _ _)
      | (with_reducible exact cambiumlaw03_lives.mono _)
      | (with_reducible exact dev_Check.mono _ _ _ _ _ _)
      | (with_reducible exact dev_Crash.mono _ _ _ _ _ _ _)
      | (with_reducible exact dev_Flush.mono _ _ _ _ _ _)
      | (with_reducible exact dev_Spoil.mono _ _ _ _ _ _ _ _)
      | (with_reducible exact dev_Write.mono _ _ _ _ _ _ _ _)
      | (with_reducible exact LeO.refl _)
      | (with_reducible exact LeO.none _)
      | (with_reducible refine LeO.ite ?_ ?_)
      | (with_reducible refine LeO.bind ?_ (fun _ => ?_))
      | exact ih0 _ _ _ _ _ _ _ _ _
      | exact ih1 _ _ _ _ _ _ _ _ _ _ _ _ _ _ _ _
      | exact cambiumlaw03_lives.mono _
      | exact dev_Check.mono _ _ _ _ _ _
      | exact dev_Crash.mono _ _ _ _ _ _ _
      | exact dev_Flush.mono _ _ _ _ _ _
      | exact dev_Spoil.mono _ _ _ _ _ _ _ _
      | exact dev_Write.mono _ _ _ _ _ _ _ _
      | exact LeO.none _
      | refine LeO.ite ?_ ?_
      | refine LeO.bind ?_ (fun _ => ?_)
theorem cambiumlaw03_DevRight.mono : ∀ a0 a1 a2 a3 a4 a5 a6 k, LeO (cambiumlaw03_DevRight.f k a0 a1 a2 a3 a4 a5 a6) (cambiumlaw03_DevRight.f (k + 1) a0 a1 a2 a3 a4 a5 a6) := by
  intro a0 a1 a2 a3 a4 a5 a6 k
  obtain ⟨ih0, ih1⟩ := cambiumlaw03_DevRight.mono_l k
  unfold cambiumlaw03_DevRight.f
  repeat' first
      | (with_reducible exact ih0 _ _ _ _ _ _ _ _ _)
      | (with_reducible exact ih1 _ _ _ _ _ _ _ _ _ _ _ _ _ _ _ _)
      | (with_reducible exact cambiumlaw03_lives.mono _)
      | (with_reducible exact dev_Check.mono _ _ _ _ _ _)
      | (with_reducible exact dev_Crash.mono _ _ _ _ _ _ _)
      | (with_reducible exact dev_Flush.mono _ _ _ _ _ _)
      | (with_reducible exact dev_Spoil.mono _ _ _ _ _ _ _ _)
      | (with_reducible exact dev_Write.mono _ _ _ _ _ _ _ _)
      | (with_reducible exact LeO.refl _)
      | (with_reducible exact LeO.none _)
      | (with_reducible refine LeO.ite ?_ ?_)
      | (with_reducible refine LeO.bind ?_ (fun _ => ?_))
      | exact ih0 _ _ _ _ _ _ _ _ _
      | exact ih1 _ _ _ _ _ _ _ _ _ _ _ _ _ _ _ _
      | exact cambiumlaw03_lives.mono _
      | exact dev_Check.mono _ _ _ _ _ _
      | exact dev_Crash.mono _ _ _ _ _ _ _
      | exact dev_Flush.mono _ _ _ _ _ _
      | exact dev_Spoil.mono _ _ _ _ _ _ _ _
      | exact dev_Write.mono _ _ _ _ _ _ _ _
      | exact LeO.none _
      | refine LeO.ite ?_ ?_
      | refine LeO.bind ?_ (fun _ => ?_)
set_option maxHeartbeats 64000000 in
set_option maxRecDepth 100000 in
theorem cambiumlaw03_DevRight.calls (k : Nat) (a0_0 : Int) (P0_1_ : Nat → Prop) (A0_1 : Option Addr) (c0_1 : Nat) (l0_1 : List (S39)) (P0_2_ : Nat → Prop) (A0_2 : Option Addr) (c0_2 : Nat) (l0_2 : List (S39)) (a0_3 : Bool) (a0_4 : Int) (A1 : Option Addr) (c1 : Nat) (l1 : List (S39)) (A2 : Option Addr) (c2 : Nat) (l2 : List Bool) (r : Bool) (w : World) (hs0_1 : Kd.V k39 39 w w.heap.size (fun k_ => P0_1_ k_) (.slice A0_1 l0_1.length c0_1) l0_1) (hs0_2 : Kd.V k39 39 w w.heap.size (fun k_ => P0_2_ k_) (.slice A0_2 l0_2.length c0_2) l0_2) (hr1 : Kd.C k39 w A1 l1.length l1) (hc1 : l1.length ≤ c1) (hr2 : Kd.C Kd.bool w A2 l2.length l2) (hc2 : l2.length ≤ c2) (h : cambiumlaw03_DevRight.f k a0_0 l0_1 l0_2 a0_3 a0_4 l1 l2 = some r) (hT_ : r = true := by rfl) :
    Calls Tryd.prog 10 #[.agg #[.int .u32 a0_0, .slice A0_1 l0_1.length c0_1, .slice A0_2 l0_2.length c0_2, .bool a0_3, .int .i64 a0_4], .slice A1 l1.length c1, .slice A2 l2.length c2] w fun e w' => e = .returned (.bool r) ∧ Below w.heap.size w w' := by
  have HT_ := Aside0.mk hT_
  clear hT_
  have hu25 := Tryd.underlying25
  have hu39 := Tryd.underlying39
  have HO0_1 := Aside0.mk (show Kd.V k39 39 w w.heap.size (fun k_ => ((P0_1_ k_ ∨ P0_2_ k_) ∨ w.heap.size ≤ k_)) (.slice A0_1 l0_1.length c0_1) l0_1 from Kd.V_mono hs0_1 (fun k_ hk => .inl (.inl hk)))
  have HO0_2 := Aside0.mk (show Kd.V k39 39 w w.heap.size (fun k_ => ((P0_1_ k_ ∨ P0_2_ k_) ∨ w.heap.size ≤ k_)) (.slice A0_2 l0_2.length c0_2) l0_2 from Kd.V_mono hs0_2 (fun k_ hk => .inl (.inr hk)))
  have HR1 := Aside0.mk hr1
  have HC1 := Aside0.mk hc1
  clear hr1 hc1
  have HR2 := Aside0.mk hr2
  have HC2 := Aside0.mk hc2
  clear hr2 hc2
  have HB := Aside0.mk (Below.refl w.heap.size w)
  have H : ((cambiumlaw03_lives.f k).bind fun t579 => (if t579 = true then ((dev_Check.f k a0_0 l0_1 l0_2 a0_3 a0_4).bind fun t580 => (if t580 = 0 then (cambiumlaw03_DevRight.l0 k l2 l1 (l1.length : Int) 0 a0_0 l0_1 l0_2 a0_3 a0_4) else (some true))) else (some false))) = some r := h
  clear h
  replace H := Option.bind_eq_some_iff.mp H
  obtain ⟨t579, A40, H⟩ := H
  replace H : (if t579 = true then ((dev_Check.f k a0_0 l0_1 l0_2 a0_3 a0_4).bind fun t580 => (if t580 = 0 then (cambiumlaw03_DevRight.l0 k l2 l1 (l1.length : Int) 0 a0_0 l0_1 l0_2 a0_3 a0_4) else (some true))) else (some false)) = some r := H
  have A4 := Aside0.mk A40
  clear A40
  by_cases c5 : t579 = true
  · subst c5
    have H1 : ((dev_Check.f k a0_0 l0_1 l0_2 a0_3 a0_4).bind fun t580 => (if t580 = 0 then (cambiumlaw03_DevRight.l0 k l2 l1 (l1.length : Int) 0 a0_0 l0_1 l0_2 a0_3 a0_4) else (some true))) = some r := by rw [if_pos rfl] at H; exact H
    clear H
    have H := H1
    clear H1
    replace H := Option.bind_eq_some_iff.mp H
    obtain ⟨t580, A60, H⟩ := H
    replace H : (if t580 = 0 then (cambiumlaw03_DevRight.l0 k l2 l1 (l1.length : Int) 0 a0_0 l0_1 l0_2 a0_3 a0_4) else (some true)) = some r := H
    have A6 := Aside0.mk A60
    clear A60
    by_cases c7 : t580 = 0
    · rw [if_pos c7] at H
      have c7b0 : (t580 == 0) = true := beq_iff_eq.mpr c7
      have c7b1 : (t580 != 0) = false := bne_eq_false_iff_eq.mpr c7
      clear c7
      have H' := Aside0.mk H
      clear H
      go_enter Tryd.func10, Tryd.ntmps10
      go_wp2_with (first | ((with_reducible refine gate_dst (N := 3) rfl ?_); refine bx_ (N := 3) (cs := #[.int .u32 a0_0, .slice A0_1 l0_1.length c0_1, .slice A0_2 l0_2.length c0_2, .bool a0_3, .int .i64 a0_4]) (t := 25) ?_; intro gb578 hg w8 hbox hb; have BK578 := Aside0.mk (hbox); have GW578 := ge_ hg; have GE578 := ge_ hg; replace HO0_1 := Aside0.mk (Kd.V_below (Kd.V_elderB (by (with_reducible repeat (first | apply Kd.V_alloc | apply Kd.V_drewN | apply Kd.V_drew)); exact HO0_1.out) gb578 (Nat.le_of_eq hg.symm)) hb); replace HO0_2 := Aside0.mk (Kd.V_below (Kd.V_elderB (by (with_reducible repeat (first | apply Kd.V_alloc | apply Kd.V_drewN | apply Kd.V_drew)); exact HO0_2.out) gb578 (Nat.le_of_eq hg.symm)) hb); replace HB := hb_ hb; clear hb hbox hg) | ((with_reducible refine gate_callee (f := 19) rfl ?_); refine gl_ (some 17) Tryd.func19 #[] ?_; (with_reducible refine (cambiumlaw03_lives.calls k  true _ A4.out).mono ?_); rintro e w9 ⟨rfl, hb⟩; refine ⟨_, rfl, ?_⟩; replace HO0_1 := Aside0.mk (Kd.V_below (by (with_reducible repeat (first | apply Kd.V_alloc | apply Kd.V_drewN | apply Kd.V_drew)); exact HO0_1.out) hb); replace HO0_2 := Aside0.mk (Kd.V_below (by (with_reducible repeat (first | apply Kd.V_alloc | apply Kd.V_drewN | apply Kd.V_drew)); exact HO0_2.out) hb); replace BK578 := kb_ BK578 hb; replace HB := hb_ hb; (try clear hb); (try clear hb2); (try clear hk); (try clear hi); obtain ⟨hcz10_0, hcz10_1, hcz10_2, hcz10_3, hcz10_4⟩ := cl5_ BK578; obtain ⟨hfz10_0, hfz10_1, hfz10_2, hfz10_3, hfz10_4⟩ := fz5_ BK578) | ((with_reducible refine gate_callee (f := 21) rfl ?_); refine gl_ (some 20) Tryd.func21 #[.agg #[.int .u32 a0_0, .slice A0_1 l0_1.length c0_1, .slice A0_2 l0_2.length c0_2, .bool a0_3, .int .i64 a0_4]] ?_; (with_reducible refine (dev_Check.calls k a0_0 _ _ l0_1 _ _ l0_2 a0_3 a0_4 t580 _ ?side1 ?side2 ?side3 ?side4 A6.out).mono ?_); (case side1 => repeat (first | exact (Kd.V_reads' HO0_1.out).2.2 | (with_reducible refine Kd.C_alloc ?_ _) | (with_reducible refine Kd.C_drewN ?_ _) | (with_reducible refine Kd.C_drew ?_))); (case side2 => exact (Kd.V_reads' HO0_1.out).2.1); (case side3 => repeat (first | exact (Kd.V_reads' HO0_2.out).2.2 | (with_reducible refine Kd.C_alloc ?_ _) | (with_reducible refine Kd.C_drewN ?_ _) | (with_reducible refine Kd.C_drew ?_))); (case side4 => exact (Kd.V_reads' HO0_2.out).2.1); rintro e w11 ⟨rfl, hb⟩; refine ⟨_, rfl, ?_⟩; replace HO0_1 := Aside0.mk (Kd.V_below (by (with_reducible repeat (first | apply Kd.V_alloc | apply Kd.V_drewN | apply Kd.V_drew)); exact HO0_1.out) hb); replace HO0_2 := Aside0.mk (Kd.V_below (by (with_reducible repeat (first | apply Kd.V_alloc | apply Kd.V_drewN | apply Kd.V_drew)); exact HO0_2.out) hb); replace BK578 := kb_ BK578 hb; replace HB := hb_ hb; (try clear hb); (try clear hb2); (try clear hk); (try clear hi)))
      go_loopg [24] k (fun kq v24 w' => ∃ (x24_1 : Int) (x579000_1 : Int) (x579001_1 : List (S39)) (x579002_1 : List (S39)) (x579003_1 : Bool) (x579004_1 : Int) (u579001 : Value) (u579002 : Value), v24 = .int .i64 x24_1 ∧ Aside0 (cambiumlaw03_DevRight.l0 kq l2 l1 (l1.length : Int) x24_1 x579000_1 x579001_1 x579002_1 x579003_1 x579004_1 = some r) ∧ Aside0 (kq ≤ k) ∧ Aside0 (Kd.V k39 39 w' w.heap.size (fun k_ => ((P0_1_ k_ ∨ P0_2_ k_) ∨ w.heap.size ≤ k_) ∧ k_ ≠ gb578) u579001 x579001_1) ∧ Aside0 (Kd.V k39 39 w' w.heap.size (fun k_ => ((P0_1_ k_ ∨ P0_2_ k_) ∨ w.heap.size ≤ k_) ∧ k_ ≠ gb578) u579002 x579002_1) ∧ Aside0 (w'.heap[gb578]? = some (.cells #[.int .u32 x579000_1, u579001, u579002, .bool x579003_1, .int .i64 x579004_1] 25 (0, 0))) ∧ Aside0 (Below w.heap.size w w'))
      case atStart => exact ⟨(0), (a0_0), (l0_1), (l0_2), (a0_3), (a0_4), (.slice A0_1 l0_1.length c0_1), (.slice A0_2 l0_2.length c0_2), (by first | rfl | (simp; done) | (simp [*]; done)), H', ⟨Nat.le_refl _⟩, ⟨by (with_reducible repeat (first | apply Kd.V_alloc | apply Kd.V_drewN | apply Kd.V_drew)); exact HO0_1.out⟩, ⟨by (with_reducible repeat (first | apply Kd.V_alloc | apply Kd.V_drewN | apply Kd.V_drew)); exact HO0_2.out⟩, ⟨bk_ BK578⟩, ⟨bel_⟩⟩
      case round =>
        clear H'
        try clear c1
        try clear c2
        try clear p2
        try clear c5
        try clear c7
        try clear c7b0
        try clear c7b1
        try clear c10
        try clear hcz10_0
        try clear hcz10_1
        try clear hcz10_2
        try clear hcz10_3
        try clear hcz10_4
        try clear hfz10_0
        try clear hfz10_1
        try clear hfz10_2
        try clear hfz10_3
        try clear hfz10_4
        obtain ⟨x24_1, x579000_1, x579001_1, x579002_1, x579003_1, x579004_1, u579001, u579002, rfl, HA, HK1, HO_579001, HO_579002, BK578, HB⟩ := hrel
        cases gk with
        | zero => exact absurd HA.out (by simp [cambiumlaw03_DevRight.l0])
        | succ k1 =>
          have H := HA.out
          clear HA
          simp only [cambiumlaw03_DevRight.l0] at H
          by_cases c12 : x24_1 < (l1.length : Int)
          · rw [if_pos c12] at H
            have c12b0 : decide (x24_1 < (l1.length : Int)) = true := decide_eq_true c12
            clear c12
            by_cases c13 : 0 ≤ x24_1
            · rw [if_pos c13] at H
              have c13b0 : decide (0 ≤ x24_1) = true := decide_eq_true c13
              clear c13
              by_cases c14 : x24_1 < (l1.length : Int)
              · rw [if_pos c14] at H
                have c14b0 : decide (x24_1 < (l1.length : Int)) = true := decide_eq_true c14
                clear c14
                by_cases c15 : x24_1 = 30
                · rw [if_pos c15] at H
                  have c15b0 : (x24_1 == 30) = true := beq_iff_eq.mpr c15
                  have c15b1 : (x24_1 != 30) = false := bne_eq_false_iff_eq.mpr c15
                  clear c15
                  obtain rfl := Option.some.inj H
                  have p581 : 0 ≤ (x24_1 : Int) := of_decide_eq_true (by first | (with_reducible assumption) | assumption)
                  have q581 : x24_1 < (l1.length : Int) := of_decide_eq_true (by first | (with_reducible assumption) | assumption)
                  obtain ⟨ad581, e581, hx581_0, hx581_1⟩ := at_T39 HR1.out x24_1 p581 q581
                  cases e581
                  replace hx581_0 := (HB.out.cell (World.block_lt_of_cell? w _ hx581_0)).trans hx581_0
                  replace hx581_1 := (HB.out.cell (World.block_lt_of_cell? w _ hx581_1)).trans hx581_1
                  replace p581 := eq_true p581
                  replace q581 := eq_true q581
                  go_wp2_with (first | ((with_reducible refine gate_dst (N := 8) rfl ?_); refine bx_ (N := 8) (cs := #[.int .u32 0, .string (⟨#[]⟩ : ByteArray)]) (t := 39) ?_; intro gb582 hg w16 hbox hb; have BK582 := Aside0.mk (hbox); have GW582 := ge_ hg; have GE582 := ge_ hg; have NB578_582 := nl_ BK578 hg; have NB582_578 := ng_ BK578 hg; replace HO_579001 := Aside0.mk (Kd.V_below (Kd.V_elderB (by (with_reducible repeat (first | apply Kd.V_alloc | apply Kd.V_drewN | apply Kd.V_drew)); exact HO_579001.out) gb582 (Nat.le_of_eq hg.symm)) hb); replace HO_579002 := Aside0.mk (Kd.V_below (Kd.V_elderB (by (with_reducible repeat (first | apply Kd.V_alloc | apply Kd.V_drewN | apply Kd.V_drew)); exact HO_579002.out) gb582 (Nat.le_of_eq hg.symm)) hb); replace BK578 := kb_ BK578 hb; replace HB := hb_ hb; clear hb hbox hg; have hnb17 := NB582_578.out; have hnc17 := NB578_582.out; obtain ⟨hcz18_0, hcz18_1⟩ := cl2_ BK582; obtain ⟨hfz18_0, hfz18_1⟩ := fz2_ BK582))
                  go_ret
                  exact ⟨by first | rfl | (simp [errW_none, errW_some] <;> rfl) | (simp [*, errW_none, errW_some] <;> rfl), bel_⟩
                · rw [if_neg c15] at H
                  have c15b0 : (x24_1 == 30) = false := beq_eq_false_iff_ne.mpr c15
                  have c15b1 : (x24_1 != 30) = true := bne_iff_ne.mpr c15
                  replace H := Option.bind_eq_some_iff.mp H
                  obtain ⟨⟨t583, t584, t587, t590, t591, t592⟩, A190, H⟩ := H
                  replace H : ((dev_Spoil.f k1 t583 t584 t587 t590 t591 ((rd_T39 l1 x24_1).f0) ((rd_T39 l1 x24_1).f1)).bind fun bt594 => ((dev_Flush.f k1 bt594.1 bt594.2.1 bt594.2.2.1 bt594.2.2.2.1 bt594.2.2.2.2.1).bind fun bt605 => ((dev_Crash.f k1 bt594.1 bt594.2.1 bt594.2.2.1 bt594.2.2.2.1 bt594.2.2.2.2.1 l2).bind fun bt616 => ((dev_Check.f k1 t583 t584 t587 t590 t591).bind fun t627 => (if t627 = 0 then ((dev_Check.f k1 bt594.1 bt594.2.1 bt594.2.2.1 bt594.2.2.2.1 bt594.2.2.2.2.1).bind fun t628 => (if t628 = 0 then ((dev_Check.f k1 bt605.1 bt605.2.1 bt605.2.2.1 bt605.2.2.2.1 bt605.2.2.2.2.1).bind fun t629 => (if t629 = 0 then ((dev_Check.f k1 bt616.1 bt616.2.1 bt616.2.2.1 bt616.2.2.2.1 bt616.2.2.2.2.1).bind fun t630 => (if t630 = 0 then (cambiumlaw03_DevRight.j1 k1 l2 x24_1 l1 (l1.length : Int) x24_1 (bt616.2.2.2.2.2 != 0) t583 t584 t587 t590 t591 bt605.1 bt605.2.1 bt605.2.2.1 bt605.2.2.2.1 bt605.2.2.2.2.1) else (cambiumlaw03_DevRight.j1 k1 l2 x24_1 l1 (l1.length : Int) x24_1 true t583 t584 t587 t590 t591 bt605.1 bt605.2.1 bt605.2.2.1 bt605.2.2.2.1 bt605.2.2.2.2.1))) else (cambiumlaw03_DevRight.j1 k1 l2 x24_1 l1 (l1.length : Int) x24_1 true t583 t584 t587 t590 t591 bt605.1 bt605.2.1 bt605.2.2.1 bt605.2.2.2.1 bt605.2.2.2.2.1))) else (cambiumlaw03_DevRight.j1 k1 l2 x24_1 l1 (l1.length : Int) x24_1 true t583 t584 t587 t590 t591 bt605.1 bt605.2.1 bt605.2.2.1 bt605.2.2.2.1 bt605.2.2.2.2.1))) else (cambiumlaw03_DevRight.j1 k1 l2 x24_1 l1 (l1.length : Int) x24_1 true t583 t584 t587 t590 t591 bt605.1 bt605.2.1 bt605.2.2.1 bt605.2.2.2.1 bt605.2.2.2.2.1)))))) = some r := H
                  have A19 := Aside0.mk A190
                  clear A190
                  replace H := Option.bind_eq_some_iff.mp H
                  obtain ⟨⟨t594, t595, t598, t601, t602, t603⟩, A200, H⟩ := H
                  replace H : ((dev_Flush.f k1 t594 t595 t598 t601 t602).bind fun bt605 => ((dev_Crash.f k1 t594 t595 t598 t601 t602 l2).bind fun bt616 => ((dev_Check.f k1 t583 t584 t587 t590 t591).bind fun t627 => (if t627 = 0 then ((dev_Check.f k1 t594 t595 t598 t601 t602).bind fun t628 => (if t628 = 0 then ((dev_Check.f k1 bt605.1 bt605.2.1 bt605.2.2.1 bt605.2.2.2.1 bt605.2.2.2.2.1).bind fun t629 => (if t629 = 0 then ((dev_Check.f k1 bt616.1 bt616.2.1 bt616.2.2.1 bt616.2.2.2.1 bt616.2.2.2.2.1).bind fun t630 => (if t630 = 0 then (cambiumlaw03_DevRight.j1 k1 l2 x24_1 l1 (l1.length : Int) x24_1 (bt616.2.2.2.2.2 != 0) t583 t584 t587 t590 t591 bt605.1 bt605.2.1 bt605.2.2.1 bt605.2.2.2.1 bt605.2.2.2.2.1) else (cambiumlaw03_DevRight.j1 k1 l2 x24_1 l1 (l1.length : Int) x24_1 true t583 t584 t587 t590 t591 bt605.1 bt605.2.1 bt605.2.2.1 bt605.2.2.2.1 bt605.2.2.2.2.1))) else (cambiumlaw03_DevRight.j1 k1 l2 x24_1 l1 (l1.length : Int) x24_1 true t583 t584 t587 t590 t591 bt605.1 bt605.2.1 bt605.2.2.1 bt605.2.2.2.1 bt605.2.2.2.2.1))) else (cambiumlaw03_DevRight.j1 k1 l2 x24_1 l1 (l1.length : Int) x24_1 true t583 t584 t587 t590 t591 bt605.1 bt605.2.1 bt605.2.2.1 bt605.2.2.2.1 bt605.2.2.2.2.1))) else (cambiumlaw03_DevRight.j1 k1 l2 x24_1 l1 (l1.length : Int) x24_1 true t583 t584 t587 t590 t591 bt605.1 bt605.2.1 bt605.2.2.1 bt605.2.2.2.1 bt605.2.2.2.2.1))))) = some r := H
                  have A20 := Aside0.mk A200
                  clear A200
                  replace H := Option.bind_eq_some_iff.mp H
                  obtain ⟨⟨t605, t606, t609, t612, t613, t614⟩, A210, H⟩ := H
                  replace H : ((dev_Crash.f k1 t594 t595 t598 t601 t602 l2).bind fun bt616 => ((dev_Check.f k1 t583 t584 t587 t590 t591).bind fun t627 => (if t627 = 0 then ((dev_Check.f k1 t594 t595 t598 t601 t602).bind fun t628 => (if t628 = 0 then ((dev_Check.f k1 t605 t606 t609 t612 t613).bind fun t629 => (if t629 = 0 then ((dev_Check.f k1 bt616.1 bt616.2.1 bt616.2.2.1 bt616.2.2.2.1 bt616.2.2.2.2.1).bind fun t630 => (if t630 = 0 then (cambiumlaw03_DevRight.j1 k1 l2 x24_1 l1 (l1.length : Int) x24_1 (bt616.2.2.2.2.2 != 0) t583 t584 t587 t590 t591 t605 t606 t609 t612 t613) else (cambiumlaw03_DevRight.j1 k1 l2 x24_1 l1 (l1.length : Int) x24_1 true t583 t584 t587 t590 t591 t605 t606 t609 t612 t613))) else (cambiumlaw03_DevRight.j1 k1 l2 x24_1 l1 (l1.length : Int) x24_1 true t583 t584 t587 t590 t591 t605 t606 t609 t612 t613))) else (cambiumlaw03_DevRight.j1 k1 l2 x24_1 l1 (l1.length : Int) x24_1 true t583 t584 t587 t590 t591 t605 t606 t609 t612 t613))) else (cambiumlaw03_DevRight.j1 k1 l2 x24_1 l1 (l1.length : Int) x24_1 true t583 t584 t587 t590 t591 t605 t606 t609 t612 t613)))) = some r := H
                  have A21 := Aside0.mk A210
                  clear A210
                  replace H := Option.bind_eq_some_iff.mp H
                  obtain ⟨⟨t616, t617, t620, t623, t624, t625⟩, A220, H⟩ := H
                  replace H : ((dev_Check.f k1 t583 t584 t587 t590 t591).bind fun t627 => (if t627 = 0 then ((dev_Check.f k1 t594 t595 t598 t601 t602).bind fun t628 => (if t628 = 0 then ((dev_Check.f k1 t605 t606 t609 t612 t613).bind fun t629 => (if t629 = 0 then ((dev_Check.f k1 t616 t617 t620 t623 t624).bind fun t630 => (if t630 = 0 then (cambiumlaw03_DevRight.j1 k1 l2 x24_1 l1 (l1.length : Int) x24_1 (t625 != 0) t583 t584 t587 t590 t591 t605 t606 t609 t612 t613) else (cambiumlaw03_DevRight.j1 k1 l2 x24_1 l1 (l1.length : Int) x24_1 true t583 t584 t587 t590 t591 t605 t606 t609 t612 t613))) else (cambiumlaw03_DevRight.j1 k1 l2 x24_1 l1 (l1.length : Int) x24_1 true t583 t584 t587 t590 t591 t605 t606 t609 t612 t613))) else (cambiumlaw03_DevRight.j1 k1 l2 x24_1 l1 (l1.length : Int) x24_1 true t583 t584 t587 t590 t591 t605 t606 t609 t612 t613))) else (cambiumlaw03_DevRight.j1 k1 l2 x24_1 l1 (l1.length : Int) x24_1 true t583 t584 t587 t590 t591 t605 t606 t609 t612 t613))) = some r := H
                  have A22 := Aside0.mk A220
                  clear A220
                  have HC23 := Aside0.mk H
                  clear H
                  have p581 : 0 ≤ (x24_1 : Int) := of_decide_eq_true (by first | (with_reducible assumption) | assumption)
                  have q581 : x24_1 < (l1.length : Int) := of_decide_eq_true (by first | (with_reducible assumption) | assumption)
                  obtain ⟨ad581, e581, hx581_0, hx581_1⟩ := at_T39 HR1.out x24_1 p581 q581
                  cases e581
                  replace hx581_0 := (HB.out.cell (World.block_lt_of_cell? w _ hx581_0)).trans hx581_0
                  replace hx581_1 := (HB.out.cell (World.block_lt_of_cell? w _ hx581_1)).trans hx581_1
                  replace p581 := eq_true p581
                  replace q581 := eq_true q581
                  go_upto_region 13 with (first | ((with_reducible refine gate_dst (N := 8) rfl ?_); refine bx_ (N := 8) (cs := #[.int .u32 0, .string (⟨#[]⟩ : ByteArray)]) (t := 39) ?_; intro gb582 hg w24 hbox hb; have n0_ := Aside0.mk (Kd.V_below (Kd.V_elderB (by (with_reducible repeat (first | apply Kd.V_alloc | apply Kd.V_drewN | apply Kd.V_drew)); exact HO_579001.out) gb582 (Nat.le_of_eq hg.symm)) hb); have n1_ := Aside0.mk (Kd.V_below (Kd.V_elderB (by (with_reducible repeat (first | apply Kd.V_alloc | apply Kd.V_drewN | apply Kd.V_drew)); exact HO_579002.out) gb582 (Nat.le_of_eq hg.symm)) hb); have n2_ := Aside0.mk (blk_below (bk_ BK578) hb); have n3_ := Aside0.mk (below_step bel_ hb); have n4_ := Aside0.mk (hbox); have n5_ := Aside0.mk ((by rw [hg]; exact (below_size bel_) : w.heap.size ≤ gb582)); have n6_ := Aside0.mk ((by rw [hg]; exact (below_size bel_) : w.heap.size ≤ gb582)); have n7_ := Aside0.mk ((by rw [hg]; exact Nat.ne_of_lt (blk_lt (bk_ BK578)) : gb578 ≠ gb582)); have n8_ := Aside0.mk ((by rw [hg]; exact Nat.ne_of_gt (blk_lt (bk_ BK578)) : gb582 ≠ gb578)); clear HO_579001; clear HO_579002; clear BK578; clear HB; have HO_579001 := n0_; have HO_579002 := n1_; have BK578 := n2_; have HB := n3_; have BK582 := n4_; have GW582 := n5_; have GE582 := n6_; have NB578_582 := n7_; have NB582_578 := n8_; clear n0_ n1_ n2_ n3_ n4_ n5_ n6_ n7_ n8_; clear hb hbox hg; have hnb25 := NB582_578.out; have hnc25 := NB578_582.out; have hcz26_0 : w24.cell? ⟨gb582, 0, none⟩ = some (.int .u32 0) := (blk_cell BK582.out 0).trans rfl; have hcz26_1 : w24.cell? ⟨gb582, 1, none⟩ = some (.string (⟨#[]⟩ : ByteArray)) := (blk_cell BK582.out 1).trans rfl; have hfz26_0 := blk_frozen BK582.out 0; have hfz26_1 := blk_frozen BK582.out 1; have hcz27_0 : w24.cell? ⟨gb578, 0, none⟩ = some (.int .u32 x579000_1) := (blk_cell BK578.out 0).trans rfl; have hcz27_1 : w24.cell? ⟨gb578, 1, none⟩ = some (u579001) := (blk_cell BK578.out 1).trans rfl; have hcz27_2 : w24.cell? ⟨gb578, 2, none⟩ = some (u579002) := (blk_cell BK578.out 2).trans rfl; have hcz27_3 : w24.cell? ⟨gb578, 3, none⟩ = some (.bool x579003_1) := (blk_cell BK578.out 3).trans rfl; have hcz27_4 : w24.cell? ⟨gb578, 4, none⟩ = some (.int .i64 x579004_1) := (blk_cell BK578.out 4).trans rfl; have hfz27_0 := blk_frozen BK578.out 0; have hfz27_1 := blk_frozen BK578.out 1; have hfz27_2 := blk_frozen BK578.out 2; have hfz27_3 := blk_frozen BK578.out 3; have hfz27_4 := blk_frozen BK578.out 4; obtain ⟨Ao28, co28, eo28⟩ := Kd.V_slice HO_579001.out; subst eo28; obtain ⟨Ao29, co29, eo29⟩ := Kd.V_slice HO_579002.out; subst eo29) | ((with_reducible refine gate_callee (f := 13) rfl ?_); refine gl_ (some 37) Tryd.func13 #[.agg #[.int .u32 x579000_1, .slice Ao28 x579001_1.length co28, .slice Ao29 x579002_1.length co29, .bool x579003_1, .int .i64 x579004_1], .int .u32 ((rd_T39 l1 x24_1).f0), .string ((rd_T39 l1 x24_1).f1)] ?_; (with_reducible refine (dev_Write.calls k1 x579000_1 _ _ x579001_1 _ _ x579002_1 x579003_1 x579004_1 ((rd_T39 l1 x24_1).f0) ((rd_T39 l1 x24_1).f1) t583 t584 t587 t590 t591 t592 _ ?side1 ?side2 ?side3 ?side4 A19.out).mono ?_); (case side1 => exact (Kd.V_reads' (by (with_reducible repeat (first | apply Kd.V_alloc | apply Kd.V_drewN | apply Kd.V_drew)); exact (Kd.V_mono (Kd.V_far (p := ⟨gb582, 1, none⟩) (Kd.V_far (p := ⟨gb582, 0, none⟩) (Kd.V_mono HO_579001.out (fun k_ hk => (⟨hk, hk.2⟩ : _ ∧ k_ ≠ gb582))) (fun _ hk => hk.2) (.int .u32 ((rd_T39 l1 x24_1).f0))) (fun _ hk => hk.2) (.string ((rd_T39 l1 x24_1).f1))) (fun _ h_ => h_.1)))).2.2); (case side2 => exact (Kd.V_reads' HO_579001.out).2.1); (case side3 => exact (Kd.V_reads' (by (with_reducible repeat (first | apply Kd.V_alloc | apply Kd.V_drewN | apply Kd.V_drew)); exact (Kd.V_mono (Kd.V_far (p := ⟨gb582, 1, none⟩) (Kd.V_far (p := ⟨gb582, 0, none⟩) (Kd.V_mono HO_579002.out (fun k_ hk => (⟨hk, hk.2⟩ : _ ∧ k_ ≠ gb582))) (fun _ hk => hk.2) (.int .u32 ((rd_T39 l1 x24_1).f0))) (fun _ hk => hk.2) (.string ((rd_T39 l1 x24_1).f1))) (fun _ h_ => h_.1)))).2.2); (case side4 => exact (Kd.V_reads' HO_579002.out).2.1); rintro e w30 ⟨v585, v588, rfl, ho0, ho1, hb⟩; refine ⟨_, rfl, ?_⟩; have n0_ := Aside0.mk (Kd.V_mono (Kd.V_told (Kd.V_told (Kd.V_old (by (with_reducible repeat (first | apply Kd.V_alloc | apply Kd.V_drewN | apply Kd.V_drew)); exact (Kd.V_mono (Kd.V_far (p := ⟨gb582, 1, none⟩) (Kd.V_far (p := ⟨gb582, 0, none⟩) (Kd.V_mono HO_579001.out (fun k_ hk => (⟨hk, hk.2⟩ : _ ∧ k_ ≠ gb582))) (fun _ hk => hk.2) (.int .u32 ((rd_T39 l1 x24_1).f0))) (fun _ hk => hk.2) (.string ((rd_T39 l1 x24_1).f1))) (fun _ h_ => h_.1))) hb) (Kd.R_base ho0)) (Kd.R_base ho1)) (fun _ h_ => h_.1)); have n1_ := Aside0.mk (Kd.V_mono (Kd.V_told (Kd.V_told (Kd.V_old (by (with_reducible repeat (first | apply Kd.V_alloc | apply Kd.V_drewN | apply Kd.V_drew)); exact (Kd.V_mono (Kd.V_far (p := ⟨gb582, 1, none⟩) (Kd.V_far (p := ⟨gb582, 0, none⟩) (Kd.V_mono HO_579002.out (fun k_ hk => (⟨hk, hk.2⟩ : _ ∧ k_ ≠ gb582))) (fun _ hk => hk.2) (.int .u32 ((rd_T39 l1 x24_1).f0))) (fun _ hk => hk.2) (.string ((rd_T39 l1 x24_1).f1))) (fun _ h_ => h_.1))) hb) (Kd.R_base ho0)) (Kd.R_base ho1)) (fun _ h_ => h_.1)); have n2_ := Aside0.mk (Kd.R_lower (Kd.R_newB (Kd.R_newM (M := fun k_ => (w.heap.size ≤ k_)) ho0 (below_size bel_) (fun k_ h_ => h_)) (g := gb582) (o := .cells #[.int .u32 ((rd_T39 l1 x24_1).f0), .string ((rd_T39 l1 x24_1).f1)] 39 (0, 0)) (bs_)) (below_size bel_)); have n3_ := Aside0.mk (Kd.R_lower (Kd.R_newB (Kd.R_newM (M := fun k_ => (w.heap.size ≤ k_)) ho1 (below_size bel_) (fun k_ h_ => h_)) (g := gb582) (o := .cells #[.int .u32 ((rd_T39 l1 x24_1).f0), .string ((rd_T39 l1 x24_1).f1)] 39 (0, 0)) (bs_)) (below_size bel_)); have n4_ := Aside0.mk (blk_below (g := gb578) (o := .cells #[.int .u32 x579000_1, .slice Ao28 x579001_1.length co28, .slice Ao29 x579002_1.length co29, .bool x579003_1, .int .i64 x579004_1] 25 (0, 0)) (bs_) hb); have n5_ := Aside0.mk (blk_below (g := gb582) (o := .cells #[.int .u32 ((rd_T39 l1 x24_1).f0), .string ((rd_T39 l1 x24_1).f1)] 39 (0, 0)) (bs_) hb); have n6_ := Aside0.mk (below_step bel_ hb); clear HO_579001; clear HO_579002; clear BK578; clear BK582; clear HB; have HO_579001 := n0_; have HO_579002 := n1_; have HO586 := n2_; have HO589 := n3_; have BK578 := n4_; have BK582 := n5_; have HB := n6_; clear n0_ n1_ n2_ n3_ n4_ n5_ n6_; (try clear hb); (try clear hb2); (try clear hk); (try clear hi); (try clear ho0); (try clear ho1)) | ((with_reducible refine gate_dst (N := 9) rfl ?_); refine bx_ (N := 9) (cs := #[.int .u32 0, .slice none 0 0, .slice none 0 0, .bool false, .int .i64 0]) (t := 25) ?_; intro gb593 hg w31 hbox hb; have n0_ := Aside0.mk (Kd.V_below (Kd.V_elderB (by (with_reducible repeat (first | apply Kd.V_alloc | apply Kd.V_drewN | apply Kd.V_drew)); exact HO_579001.out) gb593 (Nat.le_of_eq hg.symm)) hb); have n1_ := Aside0.mk (Kd.V_below (Kd.V_elderB (by (with_reducible repeat (first | apply Kd.V_alloc | apply Kd.V_drewN | apply Kd.V_drew)); exact HO_579002.out) gb593 (Nat.le_of_eq hg.symm)) hb); have n2_ := Aside0.mk (Kd.R_below (ra_ HO586) hb); have n3_ := Aside0.mk (Kd.R_below (ra_ HO589) hb); have n4_ := Aside0.mk (blk_below (bk_ BK578) hb); have n5_ := Aside0.mk (blk_below (bk_ BK582) hb); have n6_ := Aside0.mk (below_step bel_ hb); have n7_ := Aside0.mk (hbox); have n8_ := Aside0.mk ((by rw [hg]; exact (below_size bel_) : w.heap.size ≤ gb593)); have n9_ := Aside0.mk ((by rw [hg]; exact (below_size bel_) : w.heap.size ≤ gb593)); have n10_ := Aside0.mk ((by rw [hg]; exact Nat.ne_of_lt (blk_lt (bk_ BK578)) : gb578 ≠ gb593)); have n11_ := Aside0.mk ((by rw [hg]; exact Nat.ne_of_gt (blk_lt (bk_ BK578)) : gb593 ≠ gb578)); have n12_ := Aside0.mk ((by rw [hg]; exact Nat.ne_of_lt (blk_lt (bk_ BK582)) : gb582 ≠ gb593)); have n13_ := Aside0.mk ((by rw [hg]; exact Nat.ne_of_gt (blk_lt (bk_ BK582)) : gb593 ≠ gb582)); clear HO_579001; clear HO_579002; clear HO586; clear HO589; clear BK578; clear BK582; clear HB; have HO_579001 := n0_; have HO_579002 := n1_; have HO586 := n2_; have HO589 := n3_; have BK578 := n4_; have BK582 := n5_; have HB := n6_; have BK593 := n7_; have GW593 := n8_; have GE593 := n9_; have NB578_593 := n10_; have NB593_578 := n11_; have NB582_593 := n12_; have NB593_582 := n13_; clear n0_ n1_ n2_ n3_ n4_ n5_ n6_ n7_ n8_ n9_ n10_ n11_ n12_ n13_; clear hb hbox hg; have hnb32 := NB593_578.out; have hnc32 := NB578_593.out; have hnb33 := NB593_582.out; have hnc33 := NB582_593.out; have hcz34_0 : w31.cell? ⟨gb593, 0, none⟩ = some (.int .u32 0) := (blk_cell BK593.out 0).trans rfl; have hcz34_1 : w31.cell? ⟨gb593, 1, none⟩ = some (.slice none 0 0) := (blk_cell BK593.out 1).trans rfl; have hcz34_2 : w31.cell? ⟨gb593, 2, none⟩ = some (.slice none 0 0) := (blk_cell BK593.out 2).trans rfl; have hcz34_3 : w31.cell? ⟨gb593, 3, none⟩ = some (.bool false) := (blk_cell BK593.out 3).trans rfl; have hcz34_4 : w31.cell? ⟨gb593, 4, none⟩ = some (.int .i64 0) := (blk_cell BK593.out 4).trans rfl; have hfz34_0 := blk_frozen BK593.out 0; have hfz34_1 := blk_frozen BK593.out 1; have hfz34_2 := blk_frozen BK593.out 2; have hfz34_3 := blk_frozen BK593.out 3; have hfz34_4 := blk_frozen BK593.out 4; obtain ⟨Ao35, co35, eo35⟩ := Kd.R_slice HO586.out; subst eo35; obtain ⟨Ao36, co36, eo36⟩ := Kd.R_slice HO589.out; subst eo36; have hcz37_0 : w31.cell? ⟨gb582, 0, none⟩ = some (.int .u32 ((rd_T39 l1 x24_1).f0)) := (blk_cell BK582.out 0).trans rfl; have hcz37_1 : w31.cell? ⟨gb582, 1, none⟩ = some (.string ((rd_T39 l1 x24_1).f1)) := (blk_cell BK582.out 1).trans rfl; have hfz37_0 := blk_frozen BK582.out 0; have hfz37_1 := blk_frozen BK582.out 1) | ((with_reducible refine gate_callee (f := 26) rfl ?_); refine gl_ (some 46) Tryd.func26 #[.agg #[.int .u32 t583, .slice Ao35 t584.length co35, .slice Ao36 t587.length co36, .bool t590, .int .i64 t591], .int .u32 ((rd_T39 l1 x24_1).f0), .string ((rd_T39 l1 x24_1).f1)] ?_; (with_reducible refine (dev_Spoil.calls k1 t583 _ _ t584 _ _ t587 t590 t591 ((rd_T39 l1 x24_1).f0) ((rd_T39 l1 x24_1).f1) t594 t595 t598 t601 t602 t603 _ ?side1 ?side2 ?side3 ?side4 A20.out).mono ?_); (case side1 => exact (Kd.R_reads' (rw_ HO586)).2.2); (case side2 => exact (Kd.R_reads' HO586.out).2.1); (case side3 => exact (Kd.R_reads' (rw_ HO589)).2.2); (case side4 => exact (Kd.R_reads' HO589.out).2.1); rintro e w38 ⟨v596, v599, rfl, ho0, ho1, hb⟩; refine ⟨_, rfl, ?_⟩; have n0_ := Aside0.mk (Kd.V_mono (Kd.V_told (Kd.V_told (Kd.V_old (by (with_reducible repeat (first | apply Kd.V_alloc | apply Kd.V_drewN | apply Kd.V_drew)); exact (Kd.V_mono (Kd.V_far (p := ⟨gb593, 4, none⟩) (Kd.V_far (p := ⟨gb593, 3, none⟩) (Kd.V_far (p := ⟨gb593, 2, none⟩) (Kd.V_far (p := ⟨gb593, 1, none⟩) (Kd.V_far (p := ⟨gb593, 0, none⟩) (Kd.V_mono HO_579001.out (fun k_ hk => (⟨hk, hk.2⟩ : _ ∧ k_ ≠ gb593))) (fun _ hk => hk.2) (.int .u32 t583)) (fun _ hk => hk.2) (.slice Ao35 t584.length co35)) (fun _ hk => hk.2) (.slice Ao36 t587.length co36)) (fun _ hk => hk.2) (.bool t590)) (fun _ hk => hk.2) (.int .i64 t591)) (fun _ h_ => h_.1))) hb) (Kd.R_base ho0)) (Kd.R_base ho1)) (fun _ h_ => h_.1)); have n1_ := Aside0.mk (Kd.V_mono (Kd.V_told (Kd.V_told (Kd.V_old (by (with_reducible repeat (first | apply Kd.V_alloc | apply Kd.V_drewN | apply Kd.V_drew)); exact (Kd.V_mono (Kd.V_far (p := ⟨gb593, 4, none⟩) (Kd.V_far (p := ⟨gb593, 3, none⟩) (Kd.V_far (p := ⟨gb593, 2, none⟩) (Kd.V_far (p := ⟨gb593, 1, none⟩) (Kd.V_far (p := ⟨gb593, 0, none⟩) (Kd.V_mono HO_579002.out (fun k_ hk => (⟨hk, hk.2⟩ : _ ∧ k_ ≠ gb593))) (fun _ hk => hk.2) (.int .u32 t583)) (fun _ hk => hk.2) (.slice Ao35 t584.length co35)) (fun _ hk => hk.2) (.slice Ao36 t587.length co36)) (fun _ hk => hk.2) (.bool t590)) (fun _ hk => hk.2) (.int .i64 t591)) (fun _ h_ => h_.1))) hb) (Kd.R_base ho0)) (Kd.R_base ho1)) (fun _ h_ => h_.1)); have n2_ := Aside0.mk (Kd.R_mono (Kd.R_told (Kd.R_told (Kd.R_old (rw_ HO586) hb) (Kd.R_base ho0)) (Kd.R_base ho1)) (fun _ h_ => h_.1)); have n3_ := Aside0.mk (Kd.R_mono (Kd.R_told (Kd.R_told (Kd.R_old (rw_ HO589) hb) (Kd.R_base ho0)) (Kd.R_base ho1)) (fun _ h_ => h_.1)); have n4_ := Aside0.mk (Kd.R_lower (Kd.R_newB (Kd.R_new' (Kd.R_new' (Kd.R_newM (M := fun k_ => (w.heap.size ≤ k_)) ho0 (below_size bel_) (fun k_ h_ => h_)) (Kd.R_lt (rw_ HO586))) (Kd.R_lt (rw_ HO589))) (g := gb582) (o := .cells #[.int .u32 ((rd_T39 l1 x24_1).f0), .string ((rd_T39 l1 x24_1).f1)] 39 (0, 0)) (bs_)) (below_size bel_)); have n5_ := Aside0.mk (Kd.R_lower (Kd.R_newB (Kd.R_new' (Kd.R_new' (Kd.R_newM (M := fun k_ => (w.heap.size ≤ k_)) ho1 (below_size bel_) (fun k_ h_ => h_)) (Kd.R_lt (rw_ HO586))) (Kd.R_lt (rw_ HO589))) (g := gb582) (o := .cells #[.int .u32 ((rd_T39 l1 x24_1).f0), .string ((rd_T39 l1 x24_1).f1)] 39 (0, 0)) (bs_)) (below_size bel_)); have n6_ := Aside0.mk (blk_below (g := gb578) (o := .cells #[.int .u32 x579000_1, .slice Ao28 x579001_1.length co28, .slice Ao29 x579002_1.length co29, .bool x579003_1, .int .i64 x579004_1] 25 (0, 0)) (bs_) hb); have n7_ := Aside0.mk (blk_below (g := gb582) (o := .cells #[.int .u32 ((rd_T39 l1 x24_1).f0), .string ((rd_T39 l1 x24_1).f1)] 39 (0, 0)) (bs_) hb); have n8_ := Aside0.mk (blk_below (g := gb593) (o := .cells #[.int .u32 t583, .slice Ao35 t584.length co35, .slice Ao36 t587.length co36, .bool t590, .int .i64 t591] 25 (0, 0)) (bs_) hb); have n9_ := Aside0.mk (below_step bel_ hb); clear HO_579001; clear HO_579002; clear HO586; clear HO589; clear BK578; clear BK582; clear BK593; clear HB; have HO_579001 := n0_; have HO_579002 := n1_; have HO586 := n2_; have HO589 := n3_; have HO597 := n4_; have HO600 := n5_; have BK578 := n6_; have BK582 := n7_; have BK593 := n8_; have HB := n9_; clear n0_ n1_ n2_ n3_ n4_ n5_ n6_ n7_ n8_ n9_; (try clear hb); (try clear hb2); (try clear hk); (try clear hi); (try clear ho0); (try clear ho1)) | ((with_reducible refine gate_dst (N := 11) rfl ?_); refine bx_ (N := 11) (cs := #[.int .u32 0, .slice none 0 0, .slice none 0 0, .bool false, .int .i64 0]) (t := 25) ?_; intro gb604 hg w39 hbox hb; have n0_ := Aside0.mk (Kd.V_below (Kd.V_elderB (by (with_reducible repeat (first | apply Kd.V_alloc | apply Kd.V_drewN | apply Kd.V_drew)); exact HO_579001.out) gb604 (Nat.le_of_eq hg.symm)) hb); have n1_ := Aside0.mk (Kd.V_below (Kd.V_elderB (by (with_reducible repeat (first | apply Kd.V_alloc | apply Kd.V_drewN | apply Kd.V_drew)); exact HO_579002.out) gb604 (Nat.le_of_eq hg.symm)) hb); have n2_ := Aside0.mk (Kd.R_below (ra_ HO586) hb); have n3_ := Aside0.mk (Kd.R_below (ra_ HO589) hb); have n4_ := Aside0.mk (Kd.R_below (ra_ HO597) hb); have n5_ := Aside0.mk (Kd.R_below (ra_ HO600) hb); have n6_ := Aside0.mk (blk_below (bk_ BK578) hb); have n7_ := Aside0.mk (blk_below (bk_ BK582) hb); have n8_ := Aside0.mk (blk_below (bk_ BK593) hb); have n9_ := Aside0.mk (below_step bel_ hb); have n10_ := Aside0.mk (hbox); have n11_ := Aside0.mk ((by rw [hg]; exact (below_size bel_) : w.heap.size ≤ gb604)); have n12_ := Aside0.mk ((by rw [hg]; exact (below_size bel_) : w.heap.size ≤ gb604)); have n13_ := Aside0.mk ((by rw [hg]; exact Nat.ne_of_lt (blk_lt (bk_ BK578)) : gb578 ≠ gb604)); have n14_ := Aside0.mk ((by rw [hg]; exact Nat.ne_of_gt (blk_lt (bk_ BK578)) : gb604 ≠ gb578)); have n15_ := Aside0.mk ((by rw [hg]; exact Nat.ne_of_lt (blk_lt (bk_ BK582)) : gb582 ≠ gb604)); have n16_ := Aside0.mk ((by rw [hg]; exact Nat.ne_of_gt (blk_lt (bk_ BK582)) : gb604 ≠ gb582)); have n17_ := Aside0.mk ((by rw [hg]; exact Nat.ne_of_lt (blk_lt (bk_ BK593)) : gb593 ≠ gb604)); have n18_ := Aside0.mk ((by rw [hg]; exact Nat.ne_of_gt (blk_lt (bk_ BK593)) : gb604 ≠ gb593)); clear HO_579001; clear HO_579002; clear HO586; clear HO589; clear HO597; clear HO600; clear BK578; clear BK582; clear BK593; clear HB; have HO_579001 := n0_; have HO_579002 := n1_; have HO586 := n2_; have HO589 := n3_; have HO597 := n4_; have HO600 := n5_; have BK578 := n6_; have BK582 := n7_; have BK593 := n8_; have HB := n9_; have BK604 := n10_; have GW604 := n11_; have GE604 := n12_; have NB578_604 := n13_; have NB604_578 := n14_; have NB582_604 := n15_; have NB604_582 := n16_; have NB593_604 := n17_; have NB604_593 := n18_; clear n0_ n1_ n2_ n3_ n4_ n5_ n6_ n7_ n8_ n9_ n10_ n11_ n12_ n13_ n14_ n15_ n16_ n17_ n18_; clear hb hbox hg; have hnb40 := NB604_578.out; have hnc40 := NB578_604.out; have hnb41 := NB604_582.out; have hnc41 := NB582_604.out; have hnb42 := NB604_593.out; have hnc42 := NB593_604.out; have hcz43_0 : w39.cell? ⟨gb604, 0, none⟩ = some (.int .u32 0) := (blk_cell BK604.out 0).trans rfl; have hcz43_1 : w39.cell? ⟨gb604, 1, none⟩ = some (.slice none 0 0) := (blk_cell BK604.out 1).trans rfl; have hcz43_2 : w39.cell? ⟨gb604, 2, none⟩ = some (.slice none 0 0) := (blk_cell BK604.out 2).trans rfl; have hcz43_3 : w39.cell? ⟨gb604, 3, none⟩ = some (.bool false) := (blk_cell BK604.out 3).trans rfl; have hcz43_4 : w39.cell? ⟨gb604, 4, none⟩ = some (.int .i64 0) := (blk_cell BK604.out 4).trans rfl; have hfz43_0 := blk_frozen BK604.out 0; have hfz43_1 := blk_frozen BK604.out 1; have hfz43_2 := blk_frozen BK604.out 2; have hfz43_3 := blk_frozen BK604.out 3; have hfz43_4 := blk_frozen BK604.out 4; obtain ⟨Ao44, co44, eo44⟩ := Kd.R_slice HO597.out; subst eo44; obtain ⟨Ao45, co45, eo45⟩ := Kd.R_slice HO600.out; subst eo45) | ((with_reducible refine gate_callee (f := 15) rfl ?_); refine gl_ (some 51) Tryd.func15 #[.agg #[.int .u32 t594, .slice Ao44 t595.length co44, .slice Ao45 t598.length co45, .bool t601, .int .i64 t602]] ?_; (with_reducible refine (dev_Flush.calls k1 t594 _ _ t595 _ _ t598 t601 t602 t605 t606 t609 t612 t613 t614 _ ?side1 ?side2 ?side3 ?side4 A21.out).mono ?_); (case side1 => exact (Kd.R_reads' (rw_ HO597)).2.2); (case side2 => exact (Kd.R_reads' HO597.out).2.1); (case side3 => exact (Kd.R_reads' (rw_ HO600)).2.2); (case side4 => exact (Kd.R_reads' HO600.out).2.1); rintro e w46 ⟨v607, v610, rfl, ho0, ho1, hb⟩; refine ⟨_, rfl, ?_⟩; have n0_ := Aside0.mk (Kd.V_mono (Kd.V_told (Kd.V_told (Kd.V_old (by (with_reducible repeat (first | apply Kd.V_alloc | apply Kd.V_drewN | apply Kd.V_drew)); exact (Kd.V_mono (Kd.V_far (p := ⟨gb604, 4, none⟩) (Kd.V_far (p := ⟨gb604, 3, none⟩) (Kd.V_far (p := ⟨gb604, 2, none⟩) (Kd.V_far (p := ⟨gb604, 1, none⟩) (Kd.V_far (p := ⟨gb604, 0, none⟩) (Kd.V_mono HO_579001.out (fun k_ hk => (⟨hk, hk.2⟩ : _ ∧ k_ ≠ gb604))) (fun _ hk => hk.2) (.int .u32 t594)) (fun _ hk => hk.2) (.slice Ao44 t595.length co44)) (fun _ hk => hk.2) (.slice Ao45 t598.length co45)) (fun _ hk => hk.2) (.bool t601)) (fun _ hk => hk.2) (.int .i64 t602)) (fun _ h_ => h_.1))) hb) (Kd.R_base ho0)) (Kd.R_base ho1)) (fun _ h_ => h_.1)); have n1_ := Aside0.mk (Kd.V_mono (Kd.V_told (Kd.V_told (Kd.V_old (by (with_reducible repeat (first | apply Kd.V_alloc | apply Kd.V_drewN | apply Kd.V_drew)); exact (Kd.V_mono (Kd.V_far (p := ⟨gb604, 4, none⟩) (Kd.V_far (p := ⟨gb604, 3, none⟩) (Kd.V_far (p := ⟨gb604, 2, none⟩) (Kd.V_far (p := ⟨gb604, 1, none⟩) (Kd.V_far (p := ⟨gb604, 0, none⟩) (Kd.V_mono HO_579002.out (fun k_ hk => (⟨hk, hk.2⟩ : _ ∧ k_ ≠ gb604))) (fun _ hk => hk.2) (.int .u32 t594)) (fun _ hk => hk.2) (.slice Ao44 t595.length co44)) (fun _ hk => hk.2) (.slice Ao45 t598.length co45)) (fun _ hk => hk.2) (.bool t601)) (fun _ hk => hk.2) (.int .i64 t602)) (fun _ h_ => h_.1))) hb) (Kd.R_base ho0)) (Kd.R_base ho1)) (fun _ h_ => h_.1)); have n2_ := Aside0.mk (Kd.R_mono (Kd.R_told (Kd.R_told (Kd.R_old (rw_ HO586) hb) (Kd.R_base ho0)) (Kd.R_base ho1)) (fun _ h_ => h_.1)); have n3_ := Aside0.mk (Kd.R_mono (Kd.R_told (Kd.R_told (Kd.R_old (rw_ HO589) hb) (Kd.R_base ho0)) (Kd.R_base ho1)) (fun _ h_ => h_.1)); have n4_ := Aside0.mk (Kd.R_mono (Kd.R_told (Kd.R_told (Kd.R_old (rw_ HO597) hb) (Kd.R_base ho0)) (Kd.R_base ho1)) (fun _ h_ => h_.1)); have n5_ := Aside0.mk (Kd.R_mono (Kd.R_told (Kd.R_told (Kd.R_old (rw_ HO600) hb) (Kd.R_base ho0)) (Kd.R_base ho1)) (fun _ h_ => h_.1)); have n6_ := Aside0.mk (Kd.R_lower (Kd.R_newB (Kd.R_new' (Kd.R_new' (Kd.R_new' (Kd.R_new' (Kd.R_newM (M := fun k_ => (w.heap.size ≤ k_)) ho0 (below_size bel_) (fun k_ h_ => h_)) (Kd.R_lt (rw_ HO586))) (Kd.R_lt (rw_ HO589))) (Kd.R_lt (rw_ HO597))) (Kd.R_lt (rw_ HO600))) (g := gb582) (o := .cells #[.int .u32 ((rd_T39 l1 x24_1).f0), .string ((rd_T39 l1 x24_1).f1)] 39 (0, 0)) (bs_)) (below_size bel_)); have n7_ := Aside0.mk (Kd.R_lower (Kd.R_newB (Kd.R_new' (Kd.R_new' (Kd.R_new' (Kd.R_new' (Kd.R_newM (M := fun k_ => (w.heap.size ≤ k_)) ho1 (below_size bel_) (fun k_ h_ => h_)) (Kd.R_lt (rw_ HO586))) (Kd.R_lt (rw_ HO589))) (Kd.R_lt (rw_ HO597))) (Kd.R_lt (rw_ HO600))) (g := gb582) (o := .cells #[.int .u32 ((rd_T39 l1 x24_1).f0), .string ((rd_T39 l1 x24_1).f1)] 39 (0, 0)) (bs_)) (below_size bel_)); have n8_ := Aside0.mk (blk_below (g := gb578) (o := .cells #[.int .u32 x579000_1, .slice Ao28 x579001_1.length co28, .slice Ao29 x579002_1.length co29, .bool x579003_1, .int .i64 x579004_1] 25 (0, 0)) (bs_) hb); have n9_ := Aside0.mk (blk_below (g := gb582) (o := .cells #[.int .u32 ((rd_T39 l1 x24_1).f0), .string ((rd_T39 l1 x24_1).f1)] 39 (0, 0)) (bs_) hb); have n10_ := Aside0.mk (blk_below (g := gb593) (o := .cells #[.int .u32 t583, .slice Ao35 t584.length co35, .slice Ao36 t587.length co36, .bool t590, .int .i64 t591] 25 (0, 0)) (bs_) hb); have n11_ := Aside0.mk (blk_below (g := gb604) (o := .cells #[.int .u32 t594, .slice Ao44 t595.length co44, .slice Ao45 t598.length co45, .bool t601, .int .i64 t602] 25 (0, 0)) (bs_) hb); have n12_ := Aside0.mk (below_step bel_ hb); clear HO_579001; clear HO_579002; clear HO586; clear HO589; clear HO597; clear HO600; clear BK578; clear BK582; clear BK593; clear BK604; clear HB; have HO_579001 := n0_; have HO_579002 := n1_; have HO586 := n2_; have HO589 := n3_; have HO597 := n4_; have HO600 := n5_; have HO608 := n6_; have HO611 := n7_; have BK578 := n8_; have BK582 := n9_; have BK593 := n10_; have BK604 := n11_; have HB := n12_; clear n0_ n1_ n2_ n3_ n4_ n5_ n6_ n7_ n8_ n9_ n10_ n11_ n12_; (try clear hb); (try clear hb2); (try clear hk); (try clear hi); (try clear ho0); (try clear ho1)) | ((with_reducible refine gate_dst (N := 13) rfl ?_); refine bx_ (N := 13) (cs := #[.int .u32 0, .slice none 0 0, .slice none 0 0, .bool false, .int .i64 0]) (t := 25) ?_; intro gb615 hg w47 hbox hb; have n0_ := Aside0.mk (Kd.V_below (Kd.V_elderB (by (with_reducible repeat (first | apply Kd.V_alloc | apply Kd.V_drewN | apply Kd.V_drew)); exact HO_579001.out) gb615 (Nat.le_of_eq hg.symm)) hb); have n1_ := Aside0.mk (Kd.V_below (Kd.V_elderB (by (with_reducible repeat (first | apply Kd.V_alloc | apply Kd.V_drewN | apply Kd.V_drew)); exact HO_579002.out) gb615 (Nat.le_of_eq hg.symm)) hb); have n2_ := Aside0.mk (Kd.R_below (ra_ HO586) hb); have n3_ := Aside0.mk (Kd.R_below (ra_ HO589) hb); have n4_ := Aside0.mk (Kd.R_below (ra_ HO597) hb); have n5_ := Aside0.mk (Kd.R_below (ra_ HO600) hb); have n6_ := Aside0.mk (Kd.R_below (ra_ HO608) hb); have n7_ := Aside0.mk (Kd.R_below (ra_ HO611) hb); have n8_ := Aside0.mk (blk_below (bk_ BK578) hb); have n9_ := Aside0.mk (blk_below (bk_ BK582) hb); have n10_ := Aside0.mk (blk_below (bk_ BK593) hb); have n11_ := Aside0.mk (blk_below (bk_ BK604) hb); have n12_ := Aside0.mk (below_step bel_ hb); have n13_ := Aside0.mk (hbox); have n14_ := Aside0.mk ((by rw [hg]; exact (below_size bel_) : w.heap.size ≤ gb615)); have n15_ := Aside0.mk ((by rw [hg]; exact (below_size bel_) : w.heap.size ≤ gb615)); have n16_ := Aside0.mk ((by rw [hg]; exact Nat.ne_of_lt (blk_lt (bk_ BK578)) : gb578 ≠ gb615)); have n17_ := Aside0.mk ((by rw [hg]; exact Nat.ne_of_gt (blk_lt (bk_ BK578)) : gb615 ≠ gb578)); have n18_ := Aside0.mk ((by rw [hg]; exact Nat.ne_of_lt (blk_lt (bk_ BK582)) : gb582 ≠ gb615)); have n19_ := Aside0.mk ((by rw [hg]; exact Nat.ne_of_gt (blk_lt (bk_ BK582)) : gb615 ≠ gb582)); have n20_ := Aside0.mk ((by rw [hg]; exact Nat.ne_of_lt (blk_lt (bk_ BK593)) : gb593 ≠ gb615)); have n21_ := Aside0.mk ((by rw [hg]; exact Nat.ne_of_gt (blk_lt (bk_ BK593)) : gb615 ≠ gb593)); have n22_ := Aside0.mk ((by rw [hg]; exact Nat.ne_of_lt (blk_lt (bk_ BK604)) : gb604 ≠ gb615)); have n23_ := Aside0.mk ((by rw [hg]; exact Nat.ne_of_gt (blk_lt (bk_ BK604)) : gb615 ≠ gb604)); clear HO_579001; clear HO_579002; clear HO586; clear HO589; clear HO597; clear HO600; clear HO608; clear HO611; clear BK578; clear BK582; clear BK593; clear BK604; clear HB; have HO_579001 := n0_; have HO_579002 := n1_; have HO586 := n2_; have HO589 := n3_; have HO597 := n4_; have HO600 := n5_; have HO608 := n6_; have HO611 := n7_; have BK578 := n8_; have BK582 := n9_; have BK593 := n10_; have BK604 := n11_; have HB := n12_; have BK615 := n13_; have GW615 := n14_; have GE615 := n15_; have NB578_615 := n16_; have NB615_578 := n17_; have NB582_615 := n18_; have NB615_582 := n19_; have NB593_615 := n20_; have NB615_593 := n21_; have NB604_615 := n22_; have NB615_604 := n23_; clear n0_ n1_ n2_ n3_ n4_ n5_ n6_ n7_ n8_ n9_ n10_ n11_ n12_ n13_ n14_ n15_ n16_ n17_ n18_ n19_ n20_ n21_ n22_ n23_; clear hb hbox hg; have hnb48 := NB615_578.out; have hnc48 := NB578_615.out; have hnb49 := NB615_582.out; have hnc49 := NB582_615.out; have hnb50 := NB615_593.out; have hnc50 := NB593_615.out; have hnb51 := NB615_604.out; have hnc51 := NB604_615.out; have hcz52_0 : w47.cell? ⟨gb615, 0, none⟩ = some (.int .u32 0) := (blk_cell BK615.out 0).trans rfl; have hcz52_1 : w47.cell? ⟨gb615, 1, none⟩ = some (.slice none 0 0) := (blk_cell BK615.out 1).trans rfl; have hcz52_2 : w47.cell? ⟨gb615, 2, none⟩ = some (.slice none 0 0) := (blk_cell BK615.out 2).trans rfl; have hcz52_3 : w47.cell? ⟨gb615, 3, none⟩ = some (.bool false) := (blk_cell BK615.out 3).trans rfl; have hcz52_4 : w47.cell? ⟨gb615, 4, none⟩ = some (.int .i64 0) := (blk_cell BK615.out 4).trans rfl; have hfz52_0 := blk_frozen BK615.out 0; have hfz52_1 := blk_frozen BK615.out 1; have hfz52_2 := blk_frozen BK615.out 2; have hfz52_3 := blk_frozen BK615.out 3; have hfz52_4 := blk_frozen BK615.out 4; obtain ⟨Ao53, co53, eo53⟩ := Kd.R_slice HO608.out; subst eo53; obtain ⟨Ao54, co54, eo54⟩ := Kd.R_slice HO611.out; subst eo54; have hcz55_0 : w47.cell? ⟨gb604, 0, none⟩ = some (.int .u32 t594) := (blk_cell BK604.out 0).trans rfl; have hcz55_1 : w47.cell? ⟨gb604, 1, none⟩ = some (.slice Ao44 t595.length co44) := (blk_cell BK604.out 1).trans rfl; have hcz55_2 : w47.cell? ⟨gb604, 2, none⟩ = some (.slice Ao45 t598.length co45) := (blk_cell BK604.out 2).trans rfl; have hcz55_3 : w47.cell? ⟨gb604, 3, none⟩ = some (.bool t601) := (blk_cell BK604.out 3).trans rfl; have hcz55_4 : w47.cell? ⟨gb604, 4, none⟩ = some (.int .i64 t602) := (blk_cell BK604.out 4).trans rfl; have hfz55_0 := blk_frozen BK604.out 0; have hfz55_1 := blk_frozen BK604.out 1; have hfz55_2 := blk_frozen BK604.out 2; have hfz55_3 := blk_frozen BK604.out 3; have hfz55_4 := blk_frozen BK604.out 4) | ((with_reducible refine gate_callee (f := 23) rfl ?_); refine gl_ (some 57) Tryd.func23 #[.agg #[.int .u32 t594, .slice Ao44 t595.length co44, .slice Ao45 t598.length co45, .bool t601, .int .i64 t602], .slice A2 l2.length c2] ?_; (with_reducible refine (dev_Crash.calls k1 t594 _ _ t595 _ _ t598 t601 t602 _ _ l2 t616 t617 t620 t623 t624 t625 _ ?side1 ?side2 ?side3 ?side4 ?side5 ?side6 A22.out).mono ?_); (case side1 => exact (Kd.R_reads' (rw_ HO597)).2.2); (case side2 => exact (Kd.R_reads' HO597.out).2.1); (case side3 => exact (Kd.R_reads' (rw_ HO600)).2.2); (case side4 => exact (Kd.R_reads' HO600.out).2.1); (case side5 => exact Kd.C_below HR2.out bel_); (case side6 => exact HC2.out); rintro e w56 ⟨v618, v621, rfl, ho0, ho1, hb⟩; refine ⟨_, rfl, ?_⟩; have n0_ := Aside0.mk (Kd.V_mono (Kd.V_told (Kd.V_told (Kd.V_old (by (with_reducible repeat (first | apply Kd.V_alloc | apply Kd.V_drewN | apply Kd.V_drew)); exact (Kd.V_mono (Kd.V_far (p := ⟨gb615, 4, none⟩) (Kd.V_far (p := ⟨gb615, 3, none⟩) (Kd.V_far (p := ⟨gb615, 2, none⟩) (Kd.V_far (p := ⟨gb615, 1, none⟩) (Kd.V_far (p := ⟨gb615, 0, none⟩) (Kd.V_mono HO_579001.out (fun k_ hk => (⟨hk, hk.2⟩ : _ ∧ k_ ≠ gb615))) (fun _ hk => hk.2) (.int .u32 t605)) (fun _ hk => hk.2) (.slice Ao53 t606.length co53)) (fun _ hk => hk.2) (.slice Ao54 t609.length co54)) (fun _ hk => hk.2) (.bool t612)) (fun _ hk => hk.2) (.int .i64 t613)) (fun _ h_ => h_.1))) hb) (Kd.R_base ho0)) (Kd.R_base ho1)) (fun _ h_ => h_.1)); have n1_ := Aside0.mk (Kd.V_mono (Kd.V_told (Kd.V_told (Kd.V_old (by (with_reducible repeat (first | apply Kd.V_alloc | apply Kd.V_drewN | apply Kd.V_drew)); exact (Kd.V_mono (Kd.V_far (p := ⟨gb615, 4, none⟩) (Kd.V_far (p := ⟨gb615, 3, none⟩) (Kd.V_far (p := ⟨gb615, 2, none⟩) (Kd.V_far (p := ⟨gb615, 1, none⟩) (Kd.V_far (p := ⟨gb615, 0, none⟩) (Kd.V_mono HO_579002.out (fun k_ hk => (⟨hk, hk.2⟩ : _ ∧ k_ ≠ gb615))) (fun _ hk => hk.2) (.int .u32 t605)) (fun _ hk => hk.2) (.slice Ao53 t606.length co53)) (fun _ hk => hk.2) (.slice Ao54 t609.length co54)) (fun _ hk => hk.2) (.bool t612)) (fun _ hk => hk.2) (.int .i64 t613)) (fun _ h_ => h_.1))) hb) (Kd.R_base ho0)) (Kd.R_base ho1)) (fun _ h_ => h_.1)); have n2_ := Aside0.mk (Kd.R_mono (Kd.R_told (Kd.R_told (Kd.R_old (rw_ HO586) hb) (Kd.R_base ho0)) (Kd.R_base ho1)) (fun _ h_ => h_.1)); have n3_ := Aside0.mk (Kd.R_mono (Kd.R_told (Kd.R_told (Kd.R_old (rw_ HO589) hb) (Kd.R_base ho0)) (Kd.R_base ho1)) (fun _ h_ => h_.1)); have n4_ := Aside0.mk (Kd.R_mono (Kd.R_told (Kd.R_told (Kd.R_old (rw_ HO597) hb) (Kd.R_base ho0)) (Kd.R_base ho1)) (fun _ h_ => h_.1)); have n5_ := Aside0.mk (Kd.R_mono (Kd.R_told (Kd.R_told (Kd.R_old (rw_ HO600) hb) (Kd.R_base ho0)) (Kd.R_base ho1)) (fun _ h_ => h_.1)); have n6_ := Aside0.mk (Kd.R_mono (Kd.R_told (Kd.R_told (Kd.R_old (rw_ HO608) hb) (Kd.R_base ho0)) (Kd.R_base ho1)) (fun _ h_ => h_.1)); have n7_ := Aside0.mk (Kd.R_mono (Kd.R_told (Kd.R_told (Kd.R_old (rw_ HO611) hb) (Kd.R_base ho0)) (Kd.R_base ho1)) (fun _ h_ => h_.1)); have n8_ := Aside0.mk (Kd.R_lower (Kd.R_newB (Kd.R_new' (Kd.R_new' (Kd.R_new' (Kd.R_new' (Kd.R_new' (Kd.R_new' (Kd.R_newM (M := fun k_ => (w.heap.size ≤ k_)) ho0 (below_size bel_) (fun k_ h_ => h_)) (Kd.R_lt (rw_ HO586))) (Kd.R_lt (rw_ HO589))) (Kd.R_lt (rw_ HO597))) (Kd.R_lt (rw_ HO600))) (Kd.R_lt (rw_ HO608))) (Kd.R_lt (rw_ HO611))) (g := gb582) (o := .cells #[.int .u32 ((rd_T39 l1 x24_1).f0), .string ((rd_T39 l1 x24_1).f1)] 39 (0, 0)) (bs_)) (below_size bel_)); have n9_ := Aside0.mk (Kd.R_lower (Kd.R_newB (Kd.R_new' (Kd.R_new' (Kd.R_new' (Kd.R_new' (Kd.R_new' (Kd.R_new' (Kd.R_newM (M := fun k_ => (w.heap.size ≤ k_)) ho1 (below_size bel_) (fun k_ h_ => h_)) (Kd.R_lt (rw_ HO586))) (Kd.R_lt (rw_ HO589))) (Kd.R_lt (rw_ HO597))) (Kd.R_lt (rw_ HO600))) (Kd.R_lt (rw_ HO608))) (Kd.R_lt (rw_ HO611))) (g := gb582) (o := .cells #[.int .u32 ((rd_T39 l1 x24_1).f0), .string ((rd_T39 l1 x24_1).f1)] 39 (0, 0)) (bs_)) (below_size bel_)); have n10_ := Aside0.mk (blk_below (g := gb578) (o := .cells #[.int .u32 x579000_1, .slice Ao28 x579001_1.length co28, .slice Ao29 x579002_1.length co29, .bool x579003_1, .int .i64 x579004_1] 25 (0, 0)) (bs_) hb); have n11_ := Aside0.mk (blk_below (g := gb582) (o := .cells #[.int .u32 ((rd_T39 l1 x24_1).f0), .string ((rd_T39 l1 x24_1).f1)] 39 (0, 0)) (bs_) hb); have n12_ := Aside0.mk (blk_below (g := gb593) (o := .cells #[.int .u32 t583, .slice Ao35 t584.length co35, .slice Ao36 t587.length co36, .bool t590, .int .i64 t591] 25 (0, 0)) (bs_) hb); have n13_ := Aside0.mk (blk_below (g := gb604) (o := .cells #[.int .u32 t594, .slice Ao44 t595.length co44, .slice Ao45 t598.length co45, .bool t601, .int .i64 t602] 25 (0, 0)) (bs_) hb); have n14_ := Aside0.mk (blk_below (g := gb615) (o := .cells #[.int .u32 t605, .slice Ao53 t606.length co53, .slice Ao54 t609.length co54, .bool t612, .int .i64 t613] 25 (0, 0)) (bs_) hb); have n15_ := Aside0.mk (below_step bel_ hb); clear HO_579001; clear HO_579002; clear HO586; clear HO589; clear HO597; clear HO600; clear HO608; clear HO611; clear BK578; clear BK582; clear BK593; clear BK604; clear BK615; clear HB; have HO_579001 := n0_; have HO_579002 := n1_; have HO586 := n2_; have HO589 := n3_; have HO597 := n4_; have HO600 := n5_; have HO608 := n6_; have HO611 := n7_; have HO619 := n8_; have HO622 := n9_; have BK578 := n10_; have BK582 := n11_; have BK593 := n12_; have BK604 := n13_; have BK615 := n14_; have HB := n15_; clear n0_ n1_ n2_ n3_ n4_ n5_ n6_ n7_ n8_ n9_ n10_ n11_ n12_ n13_ n14_ n15_; (try clear hb); (try clear hb2); (try clear hk); (try clear hi); (try clear ho0); (try clear ho1)) | ((with_reducible refine gate_dst (N := 15) rfl ?_); refine bx_ (N := 15) (cs := #[.int .u32 0, .slice none 0 0, .slice none 0 0, .bool false, .int .i64 0]) (t := 25) ?_; intro gb626 hg w57 hbox hb; have n0_ := Aside0.mk (Kd.V_below (Kd.V_elderB (by (with_reducible repeat (first | apply Kd.V_alloc | apply Kd.V_drewN | apply Kd.V_drew)); exact HO_579001.out) gb626 (Nat.le_of_eq hg.symm)) hb); have n1_ := Aside0.mk (Kd.V_below (Kd.V_elderB (by (with_reducible repeat (first | apply Kd.V_alloc | apply Kd.V_drewN | apply Kd.V_drew)); exact HO_579002.out) gb626 (Nat.le_of_eq hg.symm)) hb); have n2_ := Aside0.mk (Kd.R_below (ra_ HO586) hb); have n3_ := Aside0.mk (Kd.R_below (ra_ HO589) hb); have n4_ := Aside0.mk (Kd.R_below (ra_ HO597) hb); have n5_ := Aside0.mk (Kd.R_below (ra_ HO600) hb); have n6_ := Aside0.mk (Kd.R_below (ra_ HO608) hb); have n7_ := Aside0.mk (Kd.R_below (ra_ HO611) hb); have n8_ := Aside0.mk (Kd.R_below (ra_ HO619) hb); have n9_ := Aside0.mk (Kd.R_below (ra_ HO622) hb); have n10_ := Aside0.mk (blk_below (bk_ BK578) hb); have n11_ := Aside0.mk (blk_below (bk_ BK582) hb); have n12_ := Aside0.mk (blk_below (bk_ BK593) hb); have n13_ := Aside0.mk (blk_below (bk_ BK604) hb); have n14_ := Aside0.mk (blk_below (bk_ BK615) hb); have n15_ := Aside0.mk (below_step bel_ hb); have n16_ := Aside0.mk (hbox); have n17_ := Aside0.mk ((by rw [hg]; exact (below_size bel_) : w.heap.size ≤ gb626)); have n18_ := Aside0.mk ((by rw [hg]; exact (below_size bel_) : w.heap.size ≤ gb626)); have n19_ := Aside0.mk ((by rw [hg]; exact Nat.ne_of_lt (blk_lt (bk_ BK578)) : gb578 ≠ gb626)); have n20_ := Aside0.mk ((by rw [hg]; exact Nat.ne_of_gt (blk_lt (bk_ BK578)) : gb626 ≠ gb578)); have n21_ := Aside0.mk ((by rw [hg]; exact Nat.ne_of_lt (blk_lt (bk_ BK582)) : gb582 ≠ gb626)); have n22_ := Aside0.mk ((by rw [hg]; exact Nat.ne_of_gt (blk_lt (bk_ BK582)) : gb626 ≠ gb582)); have n23_ := Aside0.mk ((by rw [hg]; exact Nat.ne_of_lt (blk_lt (bk_ BK593)) : gb593 ≠ gb626)); have n24_ := Aside0.mk ((by rw [hg]; exact Nat.ne_of_gt (blk_lt (bk_ BK593)) : gb626 ≠ gb593)); have n25_ := Aside0.mk ((by rw [hg]; exact Nat.ne_of_lt (blk_lt (bk_ BK604)) : gb604 ≠ gb626)); have n26_ := Aside0.mk ((by rw [hg]; exact Nat.ne_of_gt (blk_lt (bk_ BK604)) : gb626 ≠ gb604)); have n27_ := Aside0.mk ((by rw [hg]; exact Nat.ne_of_lt (blk_lt (bk_ BK615)) : gb615 ≠ gb626)); have n28_ := Aside0.mk ((by rw [hg]; exact Nat.ne_of_gt (blk_lt (bk_ BK615)) : gb626 ≠ gb615)); clear HO_579001; clear HO_579002; clear HO586; clear HO589; clear HO597; clear HO600; clear HO608; clear HO611; clear HO619; clear HO622; clear BK578; clear BK582; clear BK593; clear BK604; clear BK615; clear HB; have HO_579001 := n0_; have HO_579002 := n1_; have HO586 := n2_; have HO589 := n3_; have HO597 := n4_; have HO600 := n5_; have HO608 := n6_; have HO611 := n7_; have HO619 := n8_; have HO622 := n9_; have BK578 := n10_; have BK582 := n11_; have BK593 := n12_; have BK604 := n13_; have BK615 := n14_; have HB := n15_; have BK626 := n16_; have GW626 := n17_; have GE626 := n18_; have NB578_626 := n19_; have NB626_578 := n20_; have NB582_626 := n21_; have NB626_582 := n22_; have NB593_626 := n23_; have NB626_593 := n24_; have NB604_626 := n25_; have NB626_604 := n26_; have NB615_626 := n27_; have NB626_615 := n28_; clear n0_ n1_ n2_ n3_ n4_ n5_ n6_ n7_ n8_ n9_ n10_ n11_ n12_ n13_ n14_ n15_ n16_ n17_ n18_ n19_ n20_ n21_ n22_ n23_ n24_ n25_ n26_ n27_ n28_; clear hb hbox hg; have hnb58 := NB626_578.out; have hnc58 := NB578_626.out; have hnb59 := NB626_582.out; have hnc59 := NB582_626.out; have hnb60 := NB626_593.out; have hnc60 := NB593_626.out; have hnb61 := NB626_604.out; have hnc61 := NB604_626.out; have hnb62 := NB626_615.out; have hnc62 := NB615_626.out; have hcz63_0 : w57.cell? ⟨gb626, 0, none⟩ = some (.int .u32 0) := (blk_cell BK626.out 0).trans rfl; have hcz63_1 : w57.cell? ⟨gb626, 1, none⟩ = some (.slice none 0 0) := (blk_cell BK626.out 1).trans rfl; have hcz63_2 : w57.cell? ⟨gb626, 2, none⟩ = some (.slice none 0 0) := (blk_cell BK626.out 2).trans rfl; have hcz63_3 : w57.cell? ⟨gb626, 3, none⟩ = some (.bool false) := (blk_cell BK626.out 3).trans rfl; have hcz63_4 : w57.cell? ⟨gb626, 4, none⟩ = some (.int .i64 0) := (blk_cell BK626.out 4).trans rfl; have hfz63_0 := blk_frozen BK626.out 0; have hfz63_1 := blk_frozen BK626.out 1; have hfz63_2 := blk_frozen BK626.out 2; have hfz63_3 := blk_frozen BK626.out 3; have hfz63_4 := blk_frozen BK626.out 4; obtain ⟨Ao64, co64, eo64⟩ := Kd.R_slice HO619.out; subst eo64; obtain ⟨Ao65, co65, eo65⟩ := Kd.R_slice HO622.out; subst eo65))
                  (try simp only [Act.put, List.setIfInBounds_toArray, List.set_cons_zero, List.set_cons_succ])
                  go_cut [81] (fun v81 wc => ∃ (kq : Nat) (x81_22 : Bool), v81 = .bool x81_22 ∧ Aside0 (cambiumlaw03_DevRight.j1 kq l2 x24_1 l1 (l1.length : Int) x24_1 x81_22 t583 t584 t587 t590 t591 t605 t606 t609 t612 t613 = some r) ∧ Aside0 (kq ≤ k1) ∧ Aside0 (Kd.V k39 39 wc w.heap.size (fun k_ => ((P0_1_ k_ ∨ P0_2_ k_) ∨ w.heap.size ≤ k_) ∧ some k_ ≠ ((.slice Ao35 t584.length co35) : Value).ownBlock ∧ some k_ ≠ ((.slice Ao36 t587.length co36) : Value).ownBlock ∧ some k_ ≠ ((.slice Ao44 t595.length co44) : Value).ownBlock ∧ some k_ ≠ ((.slice Ao45 t598.length co45) : Value).ownBlock ∧ some k_ ≠ ((.slice Ao53 t606.length co53) : Value).ownBlock ∧ some k_ ≠ ((.slice Ao54 t609.length co54) : Value).ownBlock ∧ some k_ ≠ ((.slice Ao64 t617.length co64) : Value).ownBlock ∧ some k_ ≠ ((.slice Ao65 t620.length co65) : Value).ownBlock ∧ k_ ≠ gb578 ∧ k_ ≠ gb582 ∧ k_ ≠ gb593 ∧ k_ ≠ gb604 ∧ k_ ≠ gb615 ∧ k_ ≠ gb626) (.slice Ao28 x579001_1.length co28) x579001_1) ∧ Aside0 (Kd.V k39 39 wc w.heap.size (fun k_ => ((P0_1_ k_ ∨ P0_2_ k_) ∨ w.heap.size ≤ k_) ∧ some k_ ≠ ((.slice Ao35 t584.length co35) : Value).ownBlock ∧ some k_ ≠ ((.slice Ao36 t587.length co36) : Value).ownBlock ∧ some k_ ≠ ((.slice Ao44 t595.length co44) : Value).ownBlock ∧ some k_ ≠ ((.slice Ao45 t598.length co45) : Value).ownBlock ∧ some k_ ≠ ((.slice Ao53 t606.length co53) : Value).ownBlock ∧ some k_ ≠ ((.slice Ao54 t609.length co54) : Value).ownBlock ∧ some k_ ≠ ((.slice Ao64 t617.length co64) : Value).ownBlock ∧ some k_ ≠ ((.slice Ao65 t620.length co65) : Value).ownBlock ∧ k_ ≠ gb578 ∧ k_ ≠ gb582 ∧ k_ ≠ gb593 ∧ k_ ≠ gb604 ∧ k_ ≠ gb615 ∧ k_ ≠ gb626) (.slice Ao29 x579002_1.length co29) x579002_1) ∧ Aside0 (Kd.R k39 39 wc w.heap.size (fun k_ => (w.heap.size ≤ k_) ∧ some k_ ≠ ((.slice Ao36 t587.length co36) : Value).ownBlock ∧ some k_ ≠ ((.slice Ao44 t595.length co44) : Value).ownBlock ∧ some k_ ≠ ((.slice Ao45 t598.length co45) : Value).ownBlock ∧ some k_ ≠ ((.slice Ao53 t606.length co53) : Value).ownBlock ∧ some k_ ≠ ((.slice Ao54 t609.length co54) : Value).ownBlock ∧ some k_ ≠ ((.slice Ao64 t617.length co64) : Value).ownBlock ∧ some k_ ≠ ((.slice Ao65 t620.length co65) : Value).ownBlock ∧ k_ ≠ gb582) (.slice Ao35 t584.length co35) t584) ∧ Aside0 (Kd.R k39 39 wc w.heap.size (fun k_ => (w.heap.size ≤ k_) ∧ some k_ ≠ ((.slice Ao35 t584.length co35) : Value).ownBlock ∧ some k_ ≠ ((.slice Ao44 t595.length co44) : Value).ownBlock ∧ some k_ ≠ ((.slice Ao45 t598.length co45) : Value).ownBlock ∧ some k_ ≠ ((.slice Ao53 t606.length co53) : Value).ownBlock ∧ some k_ ≠ ((.slice Ao54 t609.length co54) : Value).ownBlock ∧ some k_ ≠ ((.slice Ao64 t617.length co64) : Value).ownBlock ∧ some k_ ≠ ((.slice Ao65 t620.length co65) : Value).ownBlock ∧ k_ ≠ gb582) (.slice Ao36 t587.length co36) t587) ∧ Aside0 (Kd.R k39 39 wc w.heap.size (fun k_ => (w.heap.size ≤ k_) ∧ some k_ ≠ ((.slice Ao35 t584.length co35) : Value).ownBlock ∧ some k_ ≠ ((.slice Ao36 t587.length co36) : Value).ownBlock ∧ some k_ ≠ ((.slice Ao45 t598.length co45) : Value).ownBlock ∧ some k_ ≠ ((.slice Ao53 t606.length co53) : Value).ownBlock ∧ some k_ ≠ ((.slice Ao54 t609.length co54) : Value).ownBlock ∧ some k_ ≠ ((.slice Ao64 t617.length co64) : Value).ownBlock ∧ some k_ ≠ ((.slice Ao65 t620.length co65) : Value).ownBlock ∧ k_ ≠ gb582) (.slice Ao44 t595.length co44) t595) ∧ Aside0 (Kd.R k39 39 wc w.heap.size (fun k_ => (w.heap.size ≤ k_) ∧ some k_ ≠ ((.slice Ao35 t584.length co35) : Value).ownBlock ∧ some k_ ≠ ((.slice Ao36 t587.length co36) : Value).ownBlock ∧ some k_ ≠ ((.slice Ao44 t595.length co44) : Value).ownBlock ∧ some k_ ≠ ((.slice Ao53 t606.length co53) : Value).ownBlock ∧ some k_ ≠ ((.slice Ao54 t609.length co54) : Value).ownBlock ∧ some k_ ≠ ((.slice Ao64 t617.length co64) : Value).ownBlock ∧ some k_ ≠ ((.slice Ao65 t620.length co65) : Value).ownBlock ∧ k_ ≠ gb582) (.slice Ao45 t598.length co45) t598) ∧ Aside0 (Kd.R k39 39 wc w.heap.size (fun k_ => (w.heap.size ≤ k_) ∧ some k_ ≠ ((.slice Ao35 t584.length co35) : Value).ownBlock ∧ some k_ ≠ ((.slice Ao36 t587.length co36) : Value).ownBlock ∧ some k_ ≠ ((.slice Ao44 t595.length co44) : Value).ownBlock ∧ some k_ ≠ ((.slice Ao45 t598.length co45) : Value).ownBlock ∧ some k_ ≠ ((.slice Ao54 t609.length co54) : Value).ownBlock ∧ some k_ ≠ ((.slice Ao64 t617.length co64) : Value).ownBlock ∧ some k_ ≠ ((.slice Ao65 t620.length co65) : Value).ownBlock ∧ k_ ≠ gb582) (.slice Ao53 t606.length co53) t606) ∧ Aside0 (Kd.R k39 39 wc w.heap.size (fun k_ => (w.heap.size ≤ k_) ∧ some k_ ≠ ((.slice Ao35 t584.length co35) : Value).ownBlock ∧ some k_ ≠ ((.slice Ao36 t587.length co36) : Value).ownBlock ∧ some k_ ≠ ((.slice Ao44 t595.length co44) : Value).ownBlock ∧ some k_ ≠ ((.slice Ao45 t598.length co45) : Value).ownBlock ∧ some k_ ≠ ((.slice Ao53 t606.length co53) : Value).ownBlock ∧ some k_ ≠ ((.slice Ao64 t617.length co64) : Value).ownBlock ∧ some k_ ≠ ((.slice Ao65 t620.length co65) : Value).ownBlock ∧ k_ ≠ gb582) (.slice Ao54 t609.length co54) t609) ∧ Aside0 (Kd.R k39 39 wc w.heap.size (fun k_ => (w.heap.size ≤ k_) ∧ some k_ ≠ ((.slice Ao35 t584.length co35) : Value).ownBlock ∧ some k_ ≠ ((.slice Ao36 t587.length co36) : Value).ownBlock ∧ some k_ ≠ ((.slice Ao44 t595.length co44) : Value).ownBlock ∧ some k_ ≠ ((.slice Ao45 t598.length co45) : Value).ownBlock ∧ some k_ ≠ ((.slice Ao53 t606.length co53) : Value).ownBlock ∧ some k_ ≠ ((.slice Ao54 t609.length co54) : Value).ownBlock ∧ some k_ ≠ ((.slice Ao65 t620.length co65) : Value).ownBlock ∧ k_ ≠ gb582) (.slice Ao64 t617.length co64) t617) ∧ Aside0 (Kd.R k39 39 wc w.heap.size (fun k_ => (w.heap.size ≤ k_) ∧ some k_ ≠ ((.slice Ao35 t584.length co35) : Value).ownBlock ∧ some k_ ≠ ((.slice Ao36 t587.length co36) : Value).ownBlock ∧ some k_ ≠ ((.slice Ao44 t595.length co44) : Value).ownBlock ∧ some k_ ≠ ((.slice Ao45 t598.length co45) : Value).ownBlock ∧ some k_ ≠ ((.slice Ao53 t606.length co53) : Value).ownBlock ∧ some k_ ≠ ((.slice Ao54 t609.length co54) : Value).ownBlock ∧ some k_ ≠ ((.slice Ao64 t617.length co64) : Value).ownBlock ∧ k_ ≠ gb582) (.slice Ao65 t620.length co65) t620) ∧ Aside0 (wc.heap[gb578]? = some (.cells #[.int .u32 x579000_1, (.slice Ao28 x579001_1.length co28), (.slice Ao29 x579002_1.length co29), .bool x579003_1, .int .i64 x579004_1] 25 (0, 0))) ∧ Aside0 (wc.heap[gb582]? = some (.cells #[.int .u32 ((rd_T39 l1 x24_1).f0), .string ((rd_T39 l1 x24_1).f1)] 39 (0, 0))) ∧ Aside0 (wc.heap[gb593]? = some (.cells #[.int .u32 t583, (.slice Ao35 t584.length co35), (.slice Ao36 t587.length co36), .bool t590, .int .i64 t591] 25 (0, 0))) ∧ Aside0 (wc.heap[gb604]? = some (.cells #[.int .u32 t594, (.slice Ao44 t595.length co44), (.slice Ao45 t598.length co45), .bool t601, .int .i64 t602] 25 (0, 0))) ∧ Aside0 (wc.heap[gb615]? = some (.cells #[.int .u32 t605, (.slice Ao53 t606.length co53), (.slice Ao54 t609.length co54), .bool t612, .int .i64 t613] 25 (0, 0))) ∧ Aside0 (wc.heap[gb626]? = some (.cells #[.int .u32 t616, (.slice Ao64 t617.length co64), (.slice Ao65 t620.length co65), .bool t623, .int .i64 t624] 25 (0, 0))) ∧ Aside0 (Below w.heap.size w wc))
                  case first =>
                    have H := HC23.out
                    clear HC23
                    replace H := Option.bind_eq_some_iff.mp H
                    obtain ⟨t627, A660, H⟩ := H
                    replace H : (if t627 = 0 then ((dev_Check.f k1 t594 t595 t598 t601 t602).bind fun t628 => (if t628 = 0 then ((dev_Check.f k1 t605 t606 t609 t612 t613).bind fun t629 => (if t629 = 0 then ((dev_Check.f k1 t616 t617 t620 t623 t624).bind fun t630 => (if t630 = 0 then (cambiumlaw03_DevRight.j1 k1 l2 x24_1 l1 (l1.length : Int) x24_1 (t625 != 0) t583 t584 t587 t590 t591 t605 t606 t609 t612 t613) else (cambiumlaw03_DevRight.j1 k1 l2 x24_1 l1 (l1.length : Int) x24_1 true t583 t584 t587 t590 t591 t605 t606 t609 t612 t613))) else (cambiumlaw03_DevRight.j1 k1 l2 x24_1 l1 (l1.length : Int) x24_1 true t583 t584 t587 t590 t591 t605 t606 t609 t612 t613))) else (cambiumlaw03_DevRight.j1 k1 l2 x24_1 l1 (l1.length : Int) x24_1 true t583 t584 t587 t590 t591 t605 t606 t609 t612 t613))) else (cambiumlaw03_DevRight.j1 k1 l2 x24_1 l1 (l1.length : Int) x24_1 true t583 t584 t587 t590 t591 t605 t606 t609 t612 t613)) = some r := H
                    have A66 := Aside0.mk A660
                    clear A660
                    by_cases c67 : t627 = 0
                    · rw [if_pos c67] at H
                      have c67b0 : (t627 == 0) = true := beq_iff_eq.mpr c67
                      have c67b1 : (t627 != 0) = false := bne_eq_false_iff_eq.mpr c67
                      clear c67
                      (first | rw [c67b0] | (simp only [i64_w, i32_w]; rw [c67b0]) | skip)
                      replace H := Option.bind_eq_some_iff.mp H
                      obtain ⟨t628, A680, H⟩ := H
                      replace H : (if t628 = 0 then ((dev_Check.f k1 t605 t606 t609 t612 t613).bind fun t629 => (if t629 = 0 then ((dev_Check.f k1 t616 t617 t620 t623 t624).bind fun t630 => (if t630 = 0 then (cambiumlaw03_DevRight.j1 k1 l2 x24_1 l1 (l1.length : Int) x24_1 (t625 != 0) t583 t584 t587 t590 t591 t605 t606 t609 t612 t613) else (cambiumlaw03_DevRight.j1 k1 l2 x24_1 l1 (l1.length : Int) x24_1 true t583 t584 t587 t590 t591 t605 t606 t609 t612 t613))) else (cambiumlaw03_DevRight.j1 k1 l2 x24_1 l1 (l1.length : Int) x24_1 true t583 t584 t587 t590 t591 t605 t606 t609 t612 t613))) else (cambiumlaw03_DevRight.j1 k1 l2 x24_1 l1 (l1.length : Int) x24_1 true t583 t584 t587 t590 t591 t605 t606 t609 t612 t613)) = some r := H
                      have A68 := Aside0.mk A680
                      clear A680
                      by_cases c69 : t628 = 0
                      · rw [if_pos c69] at H
                        have c69b0 : (t628 == 0) = true := beq_iff_eq.mpr c69
                        have c69b1 : (t628 != 0) = false := bne_eq_false_iff_eq.mpr c69
                        clear c69
                        replace H := Option.bind_eq_some_iff.mp H
                        obtain ⟨t629, A700, H⟩ := H
                        replace H : (if t629 = 0 then ((dev_Check.f k1 t616 t617 t620 t623 t624).bind fun t630 => (if t630 = 0 then (cambiumlaw03_DevRight.j1 k1 l2 x24_1 l1 (l1.length : Int) x24_1 (t625 != 0) t583 t584 t587 t590 t591 t605 t606 t609 t612 t613) else (cambiumlaw03_DevRight.j1 k1 l2 x24_1 l1 (l1.length : Int) x24_1 true t583 t584 t587 t590 t591 t605 t606 t609 t612 t613))) else (cambiumlaw03_DevRight.j1 k1 l2 x24_1 l1 (l1.length : Int) x24_1 true t583 t584 t587 t590 t591 t605 t606 t609 t612 t613)) = some r := H
                        have A70 := Aside0.mk A700
                        clear A700
                        by_cases c71 : t629 = 0
                        · rw [if_pos c71] at H
                          have c71b0 : (t629 == 0) = true := beq_iff_eq.mpr c71
                          have c71b1 : (t629 != 0) = false := bne_eq_false_iff_eq.mpr c71
                          clear c71
                          replace H := Option.bind_eq_some_iff.mp H
                          obtain ⟨t630, A720, H⟩ := H
                          replace H : (if t630 = 0 then (cambiumlaw03_DevRight.j1 k1 l2 x24_1 l1 (l1.length : Int) x24_1 (t625 != 0) t583 t584 t587 t590 t591 t605 t606 t609 t612 t613) else (cambiumlaw03_DevRight.j1 k1 l2 x24_1 l1 (l1.length : Int) x24_1 true t583 t584 t587 t590 t591 t605 t606 t609 t612 t613)) = some r := H
                          have A72 := Aside0.mk A720
                          clear A720
                          by_cases c73 : t630 = 0
                          · rw [if_pos c73] at H
                            have c73b0 : (t630 == 0) = true := beq_iff_eq.mpr c73
                            have c73b1 : (t630 != 0) = false := bne_eq_false_iff_eq.mpr c73
                            clear c73
                            have H' := Aside0.mk H
                            clear H
                            have hnb74 := NB593_578.out
                            have hnc74 := NB578_593.out
                            have hnb75 := NB593_582.out
                            have hnc75 := NB582_593.out
                            have hnb76 := NB593_604.out
                            have hnc76 := NB604_593.out
                            have hnb77 := NB593_615.out
                            have hnc77 := NB615_593.out
                            have hnb78 := NB593_626.out
                            have hnc78 := NB626_593.out
                            obtain ⟨hcz79_0, hcz79_1, hcz79_2, hcz79_3, hcz79_4⟩ := cl5_ BK593
                            obtain ⟨hfz79_0, hfz79_1, hfz79_2, hfz79_3, hfz79_4⟩ := fz5_ BK593
                            go_wp2_with (first | ((with_reducible refine gate_callee (f := 21) rfl ?_); refine gl_ (some 61) Tryd.func21 #[.agg #[.int .u32 t583, .slice Ao35 t584.length co35, .slice Ao36 t587.length co36, .bool t590, .int .i64 t591]] ?_; (with_reducible refine (dev_Check.calls k1 t583 _ _ t584 _ _ t587 t590 t591 t627 _ ?side1 ?side2 ?side3 ?side4 A66.out).mono ?_); (case side1 => exact (Kd.R_reads' (rw_ HO586)).2.2); (case side2 => exact (Kd.R_reads' HO586.out).2.1); (case side3 => exact (Kd.R_reads' (rw_ HO589)).2.2); (case side4 => exact (Kd.R_reads' HO589.out).2.1); rintro e w80 ⟨rfl, hb⟩; refine ⟨_, rfl, ?_⟩; replace HO_579001 := Aside0.mk (Kd.V_below (by (with_reducible repeat (first | apply Kd.V_alloc | apply Kd.V_drewN | apply Kd.V_drew)); exact (Kd.V_mono (Kd.V_far (p := ⟨gb626, 4, none⟩) (Kd.V_far (p := ⟨gb626, 3, none⟩) (Kd.V_far (p := ⟨gb626, 2, none⟩) (Kd.V_far (p := ⟨gb626, 1, none⟩) (Kd.V_far (p := ⟨gb626, 0, none⟩) (Kd.V_mono HO_579001.out (fun k_ hk => (⟨hk, hk.2⟩ : _ ∧ k_ ≠ gb626))) (fun _ hk => hk.2) (.int .u32 t616)) (fun _ hk => hk.2) (.slice Ao64 t617.length co64)) (fun _ hk => hk.2) (.slice Ao65 t620.length co65)) (fun _ hk => hk.2) (.bool t623)) (fun _ hk => hk.2) (.int .i64 t624)) (fun _ h_ => h_.1))) hb); replace HO_579002 := Aside0.mk (Kd.V_below (by (with_reducible repeat (first | apply Kd.V_alloc | apply Kd.V_drewN | apply Kd.V_drew)); exact (Kd.V_mono (Kd.V_far (p := ⟨gb626, 4, none⟩) (Kd.V_far (p := ⟨gb626, 3, none⟩) (Kd.V_far (p := ⟨gb626, 2, none⟩) (Kd.V_far (p := ⟨gb626, 1, none⟩) (Kd.V_far (p := ⟨gb626, 0, none⟩) (Kd.V_mono HO_579002.out (fun k_ hk => (⟨hk, hk.2⟩ : _ ∧ k_ ≠ gb626))) (fun _ hk => hk.2) (.int .u32 t616)) (fun _ hk => hk.2) (.slice Ao64 t617.length co64)) (fun _ hk => hk.2) (.slice Ao65 t620.length co65)) (fun _ hk => hk.2) (.bool t623)) (fun _ hk => hk.2) (.int .i64 t624)) (fun _ h_ => h_.1))) hb); replace HO586 := Aside0.mk (Kd.R_below (rw_ HO586) hb); replace HO589 := Aside0.mk (Kd.R_below (rw_ HO589) hb); replace HO597 := Aside0.mk (Kd.R_below (rw_ HO597) hb); replace HO600 := Aside0.mk (Kd.R_below (rw_ HO600) hb); replace HO608 := Aside0.mk (Kd.R_below (rw_ HO608) hb); replace HO611 := Aside0.mk (Kd.R_below (rw_ HO611) hb); replace HO619 := Aside0.mk (Kd.R_below (rw_ HO619) hb); replace HO622 := Aside0.mk (Kd.R_below (rw_ HO622) hb); replace BK578 := Aside0.mk (blk_below (g := gb578) (o := .cells #[.int .u32 x579000_1, .slice Ao28 x579001_1.length co28, .slice Ao29 x579002_1.length co29, .bool x579003_1, .int .i64 x579004_1] 25 (0, 0)) (bs_) hb); replace BK582 := Aside0.mk (blk_below (g := gb582) (o := .cells #[.int .u32 ((rd_T39 l1 x24_1).f0), .string ((rd_T39 l1 x24_1).f1)] 39 (0, 0)) (bs_) hb); replace BK593 := Aside0.mk (blk_below (g := gb593) (o := .cells #[.int .u32 t583, .slice Ao35 t584.length co35, .slice Ao36 t587.length co36, .bool t590, .int .i64 t591] 25 (0, 0)) (bs_) hb); replace BK604 := Aside0.mk (blk_below (g := gb604) (o := .cells #[.int .u32 t594, .slice Ao44 t595.length co44, .slice Ao45 t598.length co45, .bool t601, .int .i64 t602] 25 (0, 0)) (bs_) hb); replace BK615 := Aside0.mk (blk_below (g := gb615) (o := .cells #[.int .u32 t605, .slice Ao53 t606.length co53, .slice Ao54 t609.length co54, .bool t612, .int .i64 t613] 25 (0, 0)) (bs_) hb); replace HB := hb_ hb; replace BK626 := Aside0.mk (blk_below (g := gb626) (o := .cells #[.int .u32 t616, .slice Ao64 t617.length co64, .slice Ao65 t620.length co65, .bool t623, .int .i64 t624] 25 (0, 0)) (bs_) hb); (try clear hb); (try clear hb2); (try clear hk); (try clear hi); have hnb81 := NB604_578.out; have hnc81 := NB578_604.out; have hnb82 := NB604_582.out; have hnc82 := NB582_604.out; have hnb83 := NB604_615.out; have hnc83 := NB615_604.out; have hnb84 := NB604_626.out; have hnc84 := NB626_604.out; obtain ⟨hcz85_0, hcz85_1, hcz85_2, hcz85_3, hcz85_4⟩ := cl5_ BK604; obtain ⟨hfz85_0, hfz85_1, hfz85_2, hfz85_3, hfz85_4⟩ := fz5_ BK604) | (go_at_call 21; (with_reducible refine (dev_Check.calls k1 t594 _ _ t595 _ _ t598 t601 t602 t628 _ ?side1 ?side2 ?side3 ?side4 A68.out).mono ?_); (case side1 => exact cr_ HO597); (case side2 => exact (Kd.R_reads' HO597.out).2.1); (case side3 => exact cr_ HO600); (case side4 => exact (Kd.R_reads' HO600.out).2.1); rintro e w86 ⟨rfl, hb⟩; replace HO_579001 := Aside0.mk (Kd.V_below (by (with_reducible repeat (first | apply Kd.V_alloc | apply Kd.V_drewN | apply Kd.V_drew)); exact HO_579001.out) hb); replace HO_579002 := Aside0.mk (Kd.V_below (by (with_reducible repeat (first | apply Kd.V_alloc | apply Kd.V_drewN | apply Kd.V_drew)); exact HO_579002.out) hb); replace HO586 := rb_ HO586 hb; replace HO589 := rb_ HO589 hb; replace HO597 := rb_ HO597 hb; replace HO600 := rb_ HO600 hb; replace HO608 := rb_ HO608 hb; replace HO611 := rb_ HO611 hb; replace HO619 := rb_ HO619 hb; replace HO622 := rb_ HO622 hb; replace BK578 := kb_ BK578 hb; replace BK582 := kb_ BK582 hb; replace BK593 := kb_ BK593 hb; replace BK604 := kb_ BK604 hb; replace BK615 := kb_ BK615 hb; replace BK626 := kb_ BK626 hb; replace HB := hb_ hb; (try clear hb); (try clear hb2); (try clear hk); (try clear hi); have hnb87 := NB615_578.out; have hnc87 := NB578_615.out; have hnb88 := NB615_582.out; have hnc88 := NB582_615.out; have hnb89 := NB615_626.out; have hnc89 := NB626_615.out; obtain ⟨hcz90_0, hcz90_1, hcz90_2, hcz90_3, hcz90_4⟩ := cl5_ BK615; obtain ⟨hfz90_0, hfz90_1, hfz90_2, hfz90_3, hfz90_4⟩ := fz5_ BK615) | (go_at_call 21; (with_reducible refine (dev_Check.calls k1 t605 _ _ t606 _ _ t609 t612 t613 t629 _ ?side1 ?side2 ?side3 ?side4 A70.out).mono ?_); (case side1 => exact cr_ HO608); (case side2 => exact (Kd.R_reads' HO608.out).2.1); (case side3 => exact cr_ HO611); (case side4 => exact (Kd.R_reads' HO611.out).2.1); rintro e w91 ⟨rfl, hb⟩; replace HO_579001 := Aside0.mk (Kd.V_below (by (with_reducible repeat (first | apply Kd.V_alloc | apply Kd.V_drewN | apply Kd.V_drew)); exact HO_579001.out) hb); replace HO_579002 := Aside0.mk (Kd.V_below (by (with_reducible repeat (first | apply Kd.V_alloc | apply Kd.V_drewN | apply Kd.V_drew)); exact HO_579002.out) hb); replace HO586 := rb_ HO586 hb; replace HO589 := rb_ HO589 hb; replace HO597 := rb_ HO597 hb; replace HO600 := rb_ HO600 hb; replace HO608 := rb_ HO608 hb; replace HO611 := rb_ HO611 hb; replace HO619 := rb_ HO619 hb; replace HO622 := rb_ HO622 hb; replace BK578 := kb_ BK578 hb; replace BK582 := kb_ BK582 hb; replace BK593 := kb_ BK593 hb; replace BK604 := kb_ BK604 hb; replace BK615 := kb_ BK615 hb; replace BK626 := kb_ BK626 hb; replace HB := hb_ hb; (try clear hb); (try clear hb2); (try clear hk); (try clear hi); have hnb92 := NB626_578.out; have hnc92 := NB578_626.out; have hnb93 := NB626_582.out; have hnc93 := NB582_626.out; obtain ⟨hcz94_0, hcz94_1, hcz94_2, hcz94_3, hcz94_4⟩ := cl5_ BK626; obtain ⟨hfz94_0, hfz94_1, hfz94_2, hfz94_3, hfz94_4⟩ := fz5_ BK626) | (go_at_call 21; (with_reducible refine (dev_Check.calls k1 t616 _ _ t617 _ _ t620 t623 t624 t630 _ ?side1 ?side2 ?side3 ?side4 A72.out).mono ?_); (case side1 => exact cr_ HO619); (case side2 => exact (Kd.R_reads' HO619.out).2.1); (case side3 => exact cr_ HO622); (case side4 => exact (Kd.R_reads' HO622.out).2.1); rintro e w95 ⟨rfl, hb⟩; replace HO_579001 := Aside0.mk (Kd.V_below (by (with_reducible repeat (first | apply Kd.V_alloc | apply Kd.V_drewN | apply Kd.V_drew)); exact HO_579001.out) hb); replace HO_579002 := Aside0.mk (Kd.V_below (by (with_reducible repeat (first | apply Kd.V_alloc | apply Kd.V_drewN | apply Kd.V_drew)); exact HO_579002.out) hb); replace HO586 := rb_ HO586 hb; replace HO589 := rb_ HO589 hb; replace HO597 := rb_ HO597 hb; replace HO600 := rb_ HO600 hb; replace HO608 := rb_ HO608 hb; replace HO611 := rb_ HO611 hb; replace HO619 := rb_ HO619 hb; replace HO622 := rb_ HO622 hb; replace BK578 := kb_ BK578 hb; replace BK582 := kb_ BK582 hb; replace BK593 := kb_ BK593 hb; replace BK604 := kb_ BK604 hb; replace BK615 := kb_ BK615 hb; replace BK626 := kb_ BK626 hb; replace HB := hb_ hb; (try clear hb); (try clear hb2); (try clear hk); (try clear hi)))
                            go_meet
                            case rel => exact ⟨_, ((t625 != 0)), (by first | rfl | (simp; done) | (simp [*]; done)), H', ⟨by have := HK1.out; first | omega | exact Nat.le_refl _⟩, ⟨by (with_reducible repeat (first | apply Kd.V_alloc | apply Kd.V_drewN | apply Kd.V_drew)); exact Kd.V_mono HO_579001.out (fun _ hk => ⟨hk.1.1.1.1.1.1.1.1.1.1.1.1.1.1, ⟨hk.1.1.1.1.1.1.1.1.1.1.1.2, ⟨hk.1.1.1.1.1.1.1.1.1.1.2, ⟨hk.1.1.1.1.1.1.1.1.2, ⟨hk.1.1.1.1.1.1.1.2, ⟨hk.1.1.1.1.1.2, ⟨hk.1.1.1.1.2, ⟨hk.1.1.2, ⟨hk.1.2, ⟨hk.1.1.1.1.1.1.1.1.1.1.1.1.1.2, ⟨hk.1.1.1.1.1.1.1.1.1.1.1.1.2, ⟨hk.1.1.1.1.1.1.1.1.1.2, ⟨hk.1.1.1.1.1.1.2, ⟨hk.1.1.1.2, hk.2⟩⟩⟩⟩⟩⟩⟩⟩⟩⟩⟩⟩⟩⟩)⟩, ⟨by (with_reducible repeat (first | apply Kd.V_alloc | apply Kd.V_drewN | apply Kd.V_drew)); exact Kd.V_mono HO_579002.out (fun _ hk => ⟨hk.1.1.1.1.1.1.1.1.1.1.1.1.1.1, ⟨hk.1.1.1.1.1.1.1.1.1.1.1.2, ⟨hk.1.1.1.1.1.1.1.1.1.1.2, ⟨hk.1.1.1.1.1.1.1.1.2, ⟨hk.1.1.1.1.1.1.1.2, ⟨hk.1.1.1.1.1.2, ⟨hk.1.1.1.1.2, ⟨hk.1.1.2, ⟨hk.1.2, ⟨hk.1.1.1.1.1.1.1.1.1.1.1.1.1.2, ⟨hk.1.1.1.1.1.1.1.1.1.1.1.1.2, ⟨hk.1.1.1.1.1.1.1.1.1.2, ⟨hk.1.1.1.1.1.1.2, ⟨hk.1.1.1.2, hk.2⟩⟩⟩⟩⟩⟩⟩⟩⟩⟩⟩⟩⟩⟩)⟩, ⟨by (with_reducible repeat (first | apply Kd.R_alloc | apply Kd.R_drewN | apply Kd.R_drew)); exact Kd.R_mono HO586.out (fun _ hk => ⟨hk.1.1.1.1.1.1.1.1, ⟨hk.1.1.1.1.1.1.1.2, ⟨hk.1.1.1.1.1.2, ⟨hk.1.1.1.1.2, ⟨hk.1.1.1.2, ⟨hk.1.1.2, ⟨hk.1.2, ⟨hk.2, hk.1.1.1.1.1.1.2⟩⟩⟩⟩⟩⟩⟩⟩)⟩, ⟨by (with_reducible repeat (first | apply Kd.R_alloc | apply Kd.R_drewN | apply Kd.R_drew)); exact Kd.R_mono HO589.out (fun _ hk => ⟨hk.1.1.1.1.1.1.1.1, ⟨hk.1.1.1.1.1.1.1.2, ⟨hk.1.1.1.1.1.2, ⟨hk.1.1.1.1.2, ⟨hk.1.1.1.2, ⟨hk.1.1.2, ⟨hk.1.2, ⟨hk.2, hk.1.1.1.1.1.1.2⟩⟩⟩⟩⟩⟩⟩⟩)⟩, ⟨by (with_reducible repeat (first | apply Kd.R_alloc | apply Kd.R_drewN | apply Kd.R_drew)); exact Kd.R_mono HO597.out (fun _ hk => ⟨hk.1.1.1.1.1.1.1.1, ⟨hk.1.1.1.1.1.1.2, ⟨hk.1.1.1.1.1.2, ⟨hk.1.1.1.1.1.1.1.2, ⟨hk.1.1.1.2, ⟨hk.1.1.2, ⟨hk.1.2, ⟨hk.2, hk.1.1.1.1.2⟩⟩⟩⟩⟩⟩⟩⟩)⟩, ⟨by (with_reducible repeat (first | apply Kd.R_alloc | apply Kd.R_drewN | apply Kd.R_drew)); exact Kd.R_mono HO600.out (fun _ hk => ⟨hk.1.1.1.1.1.1.1.1, ⟨hk.1.1.1.1.1.1.2, ⟨hk.1.1.1.1.1.2, ⟨hk.1.1.1.1.1.1.1.2, ⟨hk.1.1.1.2, ⟨hk.1.1.2, ⟨hk.1.2, ⟨hk.2, hk.1.1.1.1.2⟩⟩⟩⟩⟩⟩⟩⟩)⟩, ⟨by (with_reducible repeat (first | apply Kd.R_alloc | apply Kd.R_drewN | apply Kd.R_drew)); exact Kd.R_mono HO608.out (fun _ hk => ⟨hk.1.1.1.1.1.1.1.1, ⟨hk.1.1.1.1.1.1.2, ⟨hk.1.1.1.1.1.2, ⟨hk.1.1.1.1.2, ⟨hk.1.1.1.2, ⟨hk.1.1.1.1.1.1.1.2, ⟨hk.1.2, ⟨hk.2, hk.1.1.2⟩⟩⟩⟩⟩⟩⟩⟩)⟩, ⟨by (with_reducible repeat (first | apply Kd.R_alloc | apply Kd.R_drewN | apply Kd.R_drew)); exact Kd.R_mono HO611.out (fun _ hk => ⟨hk.1.1.1.1.1.1.1.1, ⟨hk.1.1.1.1.1.1.2, ⟨hk.1.1.1.1.1.2, ⟨hk.1.1.1.1.2, ⟨hk.1.1.1.2, ⟨hk.1.1.1.1.1.1.1.2, ⟨hk.1.2, ⟨hk.2, hk.1.1.2⟩⟩⟩⟩⟩⟩⟩⟩)⟩, ⟨by (with_reducible repeat (first | apply Kd.R_alloc | apply Kd.R_drewN | apply Kd.R_drew)); exact Kd.R_mono HO619.out (fun _ hk => ⟨hk.1.1.1.1.1.1.1.1, ⟨hk.1.1.1.1.1.1.2, ⟨hk.1.1.1.1.1.2, ⟨hk.1.1.1.1.2, ⟨hk.1.1.1.2, ⟨hk.1.1.2, ⟨hk.1.2, ⟨hk.1.1.1.1.1.1.1.2, hk.2⟩⟩⟩⟩⟩⟩⟩⟩)⟩, ⟨by (with_reducible repeat (first | apply Kd.R_alloc | apply Kd.R_drewN | apply Kd.R_drew)); exact Kd.R_mono HO622.out (fun _ hk => ⟨hk.1.1.1.1.1.1.1.1, ⟨hk.1.1.1.1.1.1.2, ⟨hk.1.1.1.1.1.2, ⟨hk.1.1.1.1.2, ⟨hk.1.1.1.2, ⟨hk.1.1.2, ⟨hk.1.2, ⟨hk.1.1.1.1.1.1.1.2, hk.2⟩⟩⟩⟩⟩⟩⟩⟩)⟩, ⟨bk_ BK578⟩, ⟨bk_ BK582⟩, ⟨bk_ BK593⟩, ⟨bk_ BK604⟩, ⟨bk_ BK615⟩, ⟨bk_ BK626⟩, ⟨bel_⟩⟩
                          · rw [if_neg c73] at H
                            have c73b0 : (t630 == 0) = false := beq_eq_false_iff_ne.mpr c73
                            have c73b1 : (t630 != 0) = true := bne_iff_ne.mpr c73
                            have H' := Aside0.mk H
                            clear H
                            have hnb96 := NB593_578.out
                            have hnc96 := NB578_593.out
                            have hnb97 := NB593_582.out
                            have hnc97 := NB582_593.out
                            have hnb98 := NB593_604.out
                            have hnc98 := NB604_593.out
                            have hnb99 := NB593_615.out
                            have hnc99 := NB615_593.out
                            have hnb100 := NB593_626.out
                            have hnc100 := NB626_593.out
                            obtain ⟨hcz101_0, hcz101_1, hcz101_2, hcz101_3, hcz101_4⟩ := cl5_ BK593
                            obtain ⟨hfz101_0, hfz101_1, hfz101_2, hfz101_3, hfz101_4⟩ := fz5_ BK593
                            go_wp2_with (first | ((with_reducible refine gate_callee (f := 21) rfl ?_); refine gl_ (some 61) Tryd.func21 #[.agg #[.int .u32 t583, .slice Ao35 t584.length co35, .slice Ao36 t587.length co36, .bool t590, .int .i64 t591]] ?_; (with_reducible refine (dev_Check.calls k1 t583 _ _ t584 _ _ t587 t590 t591 t627 _ ?side1 ?side2 ?side3 ?side4 A66.out).mono ?_); (case side1 => exact (Kd.R_reads' (rw_ HO586)).2.2); (case side2 => exact (Kd.R_reads' HO586.out).2.1); (case side3 => exact (Kd.R_reads' (rw_ HO589)).2.2); (case side4 => exact (Kd.R_reads' HO589.out).2.1); rintro e w102 ⟨rfl, hb⟩; refine ⟨_, rfl, ?_⟩; replace HO_579001 := Aside0.mk (Kd.V_below (by (with_reducible repeat (first | apply Kd.V_alloc | apply Kd.V_drewN | apply Kd.V_drew)); exact (Kd.V_mono (Kd.V_far (p := ⟨gb626, 4, none⟩) (Kd.V_far (p := ⟨gb626, 3, none⟩) (Kd.V_far (p := ⟨gb626, 2, none⟩) (Kd.V_far (p := ⟨gb626, 1, none⟩) (Kd.V_far (p := ⟨gb626, 0, none⟩) (Kd.V_mono HO_579001.out (fun k_ hk => (⟨hk, hk.2⟩ : _ ∧ k_ ≠ gb626))) (fun _ hk => hk.2) (.int .u32 t616)) (fun _ hk => hk.2) (.slice Ao64 t617.length co64)) (fun _ hk => hk.2) (.slice Ao65 t620.length co65)) (fun _ hk => hk.2) (.bool t623)) (fun _ hk => hk.2) (.int .i64 t624)) (fun _ h_ => h_.1))) hb); replace HO_579002 := Aside0.mk (Kd.V_below (by (with_reducible repeat (first | apply Kd.V_alloc | apply Kd.V_drewN | apply Kd.V_drew)); exact (Kd.V_mono (Kd.V_far (p := ⟨gb626, 4, none⟩) (Kd.V_far (p := ⟨gb626, 3, none⟩) (Kd.V_far (p := ⟨gb626, 2, none⟩) (Kd.V_far (p := ⟨gb626, 1, none⟩) (Kd.V_far (p := ⟨gb626, 0, none⟩) (Kd.V_mono HO_579002.out (fun k_ hk => (⟨hk, hk.2⟩ : _ ∧ k_ ≠ gb626))) (fun _ hk => hk.2) (.int .u32 t616)) (fun _ hk => hk.2) (.slice Ao64 t617.length co64)) (fun _ hk => hk.2) (.slice Ao65 t620.length co65)) (fun _ hk => hk.2) (.bool t623)) (fun _ hk => hk.2) (.int .i64 t624)) (fun _ h_ => h_.1))) hb); replace HO586 := Aside0.mk (Kd.R_below (rw_ HO586) hb); replace HO589 := Aside0.mk (Kd.R_below (rw_ HO589) hb); replace HO597 := Aside0.mk (Kd.R_below (rw_ HO597) hb); replace HO600 := Aside0.mk (Kd.R_below (rw_ HO600) hb); replace HO608 := Aside0.mk (Kd.R_below (rw_ HO608) hb); replace HO611 := Aside0.mk (Kd.R_below (rw_ HO611) hb); replace HO619 := Aside0.mk (Kd.R_below (rw_ HO619) hb); replace HO622 := Aside0.mk (Kd.R_below (rw_ HO622) hb); replace BK578 := Aside0.mk (blk_below (g := gb578) (o := .cells #[.int .u32 x579000_1, .slice Ao28 x579001_1.length co28, .slice Ao29 x579002_1.length co29, .bool x579003_1, .int .i64 x579004_1] 25 (0, 0)) (bs_) hb); replace BK582 := Aside0.mk (blk_below (g := gb582) (o := .cells #[.int .u32 ((rd_T39 l1 x24_1).f0), .string ((rd_T39 l1 x24_1).f1)] 39 (0, 0)) (bs_) hb); replace BK593 := Aside0.mk (blk_below (g := gb593) (o := .cells #[.int .u32 t583, .slice Ao35 t584.length co35, .slice Ao36 t587.length co36, .bool t590, .int .i64 t591] 25 (0, 0)) (bs_) hb); replace BK604 := Aside0.mk (blk_below (g := gb604) (o := .cells #[.int .u32 t594, .slice Ao44 t595.length co44, .slice Ao45 t598.length co45, .bool t601, .int .i64 t602] 25 (0, 0)) (bs_) hb); replace BK615 := Aside0.mk (blk_below (g := gb615) (o := .cells #[.int .u32 t605, .slice Ao53 t606.length co53, .slice Ao54 t609.length co54, .bool t612, .int .i64 t613] 25 (0, 0)) (bs_) hb); replace HB := hb_ hb; replace BK626 := Aside0.mk (blk_below (g := gb626) (o := .cells #[.int .u32 t616, .slice Ao64 t617.length co64, .slice Ao65 t620.length co65, .bool t623, .int .i64 t624] 25 (0, 0)) (bs_) hb); (try clear hb); (try clear hb2); (try clear hk); (try clear hi); have hnb103 := NB604_578.out; have hnc103 := NB578_604.out; have hnb104 := NB604_582.out; have hnc104 := NB582_604.out; have hnb105 := NB604_615.out; have hnc105 := NB615_604.out; have hnb106 := NB604_626.out; have hnc106 := NB626_604.out; obtain ⟨hcz107_0, hcz107_1, hcz107_2, hcz107_3, hcz107_4⟩ := cl5_ BK604; obtain ⟨hfz107_0, hfz107_1, hfz107_2, hfz107_3, hfz107_4⟩ := fz5_ BK604) | (go_at_call 21; (with_reducible refine (dev_Check.calls k1 t594 _ _ t595 _ _ t598 t601 t602 t628 _ ?side1 ?side2 ?side3 ?side4 A68.out).mono ?_); (case side1 => exact cr_ HO597); (case side2 => exact (Kd.R_reads' HO597.out).2.1); (case side3 => exact cr_ HO600); (case side4 => exact (Kd.R_reads' HO600.out).2.1); rintro e w108 ⟨rfl, hb⟩; replace HO_579001 := Aside0.mk (Kd.V_below (by (with_reducible repeat (first | apply Kd.V_alloc | apply Kd.V_drewN | apply Kd.V_drew)); exact HO_579001.out) hb); replace HO_579002 := Aside0.mk (Kd.V_below (by (with_reducible repeat (first | apply Kd.V_alloc | apply Kd.V_drewN | apply Kd.V_drew)); exact HO_579002.out) hb); replace HO586 := rb_ HO586 hb; replace HO589 := rb_ HO589 hb; replace HO597 := rb_ HO597 hb; replace HO600 := rb_ HO600 hb; replace HO608 := rb_ HO608 hb; replace HO611 := rb_ HO611 hb; replace HO619 := rb_ HO619 hb; replace HO622 := rb_ HO622 hb; replace BK578 := kb_ BK578 hb; replace BK582 := kb_ BK582 hb; replace BK593 := kb_ BK593 hb; replace BK604 := kb_ BK604 hb; replace BK615 := kb_ BK615 hb; replace BK626 := kb_ BK626 hb; replace HB := hb_ hb; (try clear hb); (try clear hb2); (try clear hk); (try clear hi); have hnb109 := NB615_578.out; have hnc109 := NB578_615.out; have hnb110 := NB615_582.out; have hnc110 := NB582_615.out; have hnb111 := NB615_626.out; have hnc111 := NB626_615.out; obtain ⟨hcz112_0, hcz112_1, hcz112_2, hcz112_3, hcz112_4⟩ := cl5_ BK615; obtain ⟨hfz112_0, hfz112_1, hfz112_2, hfz112_3, hfz112_4⟩ := fz5_ BK615) | (go_at_call 21; (with_reducible refine (dev_Check.calls k1 t605 _ _ t606 _ _ t609 t612 t613 t629 _ ?side1 ?side2 ?side3 ?side4 A70.out).mono ?_); (case side1 => exact cr_ HO608); (case side2 => exact (Kd.R_reads' HO608.out).2.1); (case side3 => exact cr_ HO611); (case side4 => exact (Kd.R_reads' HO611.out).2.1); rintro e w113 ⟨rfl, hb⟩; replace HO_579001 := Aside0.mk (Kd.V_below (by (with_reducible repeat (first | apply Kd.V_alloc | apply Kd.V_drewN | apply Kd.V_drew)); exact HO_579001.out) hb); replace HO_579002 := Aside0.mk (Kd.V_below (by (with_reducible repeat (first | apply Kd.V_alloc | apply Kd.V_drewN | apply Kd.V_drew)); exact HO_579002.out) hb); replace HO586 := rb_ HO586 hb; replace HO589 := rb_ HO589 hb; replace HO597 := rb_ HO597 hb; replace HO600 := rb_ HO600 hb; replace HO608 := rb_ HO608 hb; replace HO611 := rb_ HO611 hb; replace HO619 := rb_ HO619 hb; replace HO622 := rb_ HO622 hb; replace BK578 := kb_ BK578 hb; replace BK582 := kb_ BK582 hb; replace BK593 := kb_ BK593 hb; replace BK604 := kb_ BK604 hb; replace BK615 := kb_ BK615 hb; replace BK626 := kb_ BK626 hb; replace HB := hb_ hb; (try clear hb); (try clear hb2); (try clear hk); (try clear hi); have hnb114 := NB626_578.out; have hnc114 := NB578_626.out; have hnb115 := NB626_582.out; have hnc115 := NB582_626.out; obtain ⟨hcz116_0, hcz116_1, hcz116_2, hcz116_3, hcz116_4⟩ := cl5_ BK626; obtain ⟨hfz116_0, hfz116_1, hfz116_2, hfz116_3, hfz116_4⟩ := fz5_ BK626) | (go_at_call 21; (with_reducible refine (dev_Check.calls k1 t616 _ _ t617 _ _ t620 t623 t624 t630 _ ?side1 ?side2 ?side3 ?side4 A72.out).mono ?_); (case side1 => exact cr_ HO619); (case side2 => exact (Kd.R_reads' HO619.out).2.1); (case side3 => exact cr_ HO622); (case side4 => exact (Kd.R_reads' HO622.out).2.1); rintro e w117 ⟨rfl, hb⟩; replace HO_579001 := Aside0.mk (Kd.V_below (by (with_reducible repeat (first | apply Kd.V_alloc | apply Kd.V_drewN | apply Kd.V_drew)); exact HO_579001.out) hb); replace HO_579002 := Aside0.mk (Kd.V_below (by (with_reducible repeat (first | apply Kd.V_alloc | apply Kd.V_drewN | apply Kd.V_drew)); exact HO_579002.out) hb); replace HO586 := rb_ HO586 hb; replace HO589 := rb_ HO589 hb; replace HO597 := rb_ HO597 hb; replace HO600 := rb_ HO600 hb; replace HO608 := rb_ HO608 hb; replace HO611 := rb_ HO611 hb; replace HO619 := rb_ HO619 hb; replace HO622 := rb_ HO622 hb; replace BK578 := kb_ BK578 hb; replace BK582 := kb_ BK582 hb; replace BK593 := kb_ BK593 hb; replace BK604 := kb_ BK604 hb; replace BK615 := kb_ BK615 hb; replace BK626 := kb_ BK626 hb; replace HB := hb_ hb; (try clear hb); (try clear hb2); (try clear hk); (try clear hi)))
                            go_meet
                            case rel => exact ⟨_, (true), (by first | rfl | (simp; done) | (simp [*]; done)), H', ⟨by have := HK1.out; first | omega | exact Nat.le_refl _⟩, ⟨by (with_reducible repeat (first | apply Kd.V_alloc | apply Kd.V_drewN | apply Kd.V_drew)); exact Kd.V_mono HO_579001.out (fun _ hk => ⟨hk.1.1.1.1.1.1.1.1.1.1.1.1.1.1, ⟨hk.1.1.1.1.1.1.1.1.1.1.1.2, ⟨hk.1.1.1.1.1.1.1.1.1.1.2, ⟨hk.1.1.1.1.1.1.1.1.2, ⟨hk.1.1.1.1.1.1.1.2, ⟨hk.1.1.1.1.1.2, ⟨hk.1.1.1.1.2, ⟨hk.1.1.2, ⟨hk.1.2, ⟨hk.1.1.1.1.1.1.1.1.1.1.1.1.1.2, ⟨hk.1.1.1.1.1.1.1.1.1.1.1.1.2, ⟨hk.1.1.1.1.1.1.1.1.1.2, ⟨hk.1.1.1.1.1.1.2, ⟨hk.1.1.1.2, hk.2⟩⟩⟩⟩⟩⟩⟩⟩⟩⟩⟩⟩⟩⟩)⟩, ⟨by (with_reducible repeat (first | apply Kd.V_alloc | apply Kd.V_drewN | apply Kd.V_drew)); exact Kd.V_mono HO_579002.out (fun _ hk => ⟨hk.1.1.1.1.1.1.1.1.1.1.1.1.1.1, ⟨hk.1.1.1.1.1.1.1.1.1.1.1.2, ⟨hk.1.1.1.1.1.1.1.1.1.1.2, ⟨hk.1.1.1.1.1.1.1.1.2, ⟨hk.1.1.1.1.1.1.1.2, ⟨hk.1.1.1.1.1.2, ⟨hk.1.1.1.1.2, ⟨hk.1.1.2, ⟨hk.1.2, ⟨hk.1.1.1.1.1.1.1.1.1.1.1.1.1.2, ⟨hk.1.1.1.1.1.1.1.1.1.1.1.1.2, ⟨hk.1.1.1.1.1.1.1.1.1.2, ⟨hk.1.1.1.1.1.1.2, ⟨hk.1.1.1.2, hk.2⟩⟩⟩⟩⟩⟩⟩⟩⟩⟩⟩⟩⟩⟩)⟩, ⟨by (with_reducible repeat (first | apply Kd.R_alloc | apply Kd.R_drewN | apply Kd.R_drew)); exact Kd.R_mono HO586.out (fun _ hk => ⟨hk.1.1.1.1.1.1.1.1, ⟨hk.1.1.1.1.1.1.1.2, ⟨hk.1.1.1.1.1.2, ⟨hk.1.1.1.1.2, ⟨hk.1.1.1.2, ⟨hk.1.1.2, ⟨hk.1.2, ⟨hk.2, hk.1.1.1.1.1.1.2⟩⟩⟩⟩⟩⟩⟩⟩)⟩, ⟨by (with_reducible repeat (first | apply Kd.R_alloc | apply Kd.R_drewN | apply Kd.R_drew)); exact Kd.R_mono HO589.out (fun _ hk => ⟨hk.1.1.1.1.1.1.1.1, ⟨hk.1.1.1.1.1.1.1.2, ⟨hk.1.1.1.1.1.2, ⟨hk.1.1.1.1.2, ⟨hk.1.1.1.2, ⟨hk.1.1.2, ⟨hk.1.2, ⟨hk.2, hk.1.1.1.1.1.1.2⟩⟩⟩⟩⟩⟩⟩⟩)⟩, ⟨by (with_reducible repeat (first | apply Kd.R_alloc | apply Kd.R_drewN | apply Kd.R_drew)); exact Kd.R_mono HO597.out (fun _ hk => ⟨hk.1.1.1.1.1.1.1.1, ⟨hk.1.1.1.1.1.1.2, ⟨hk.1.1.1.1.1.2, ⟨hk.1.1.1.1.1.1.1.2, ⟨hk.1.1.1.2, ⟨hk.1.1.2, ⟨hk.1.2, ⟨hk.2, hk.1.1.1.1.2⟩⟩⟩⟩⟩⟩⟩⟩)⟩, ⟨by (with_reducible repeat (first | apply Kd.R_alloc | apply Kd.R_drewN | apply Kd.R_drew)); exact Kd.R_mono HO600.out (fun _ hk => ⟨hk.1.1.1.1.1.1.1.1, ⟨hk.1.1.1.1.1.1.2, ⟨hk.1.1.1.1.1.2, ⟨hk.1.1.1.1.1.1.1.2, ⟨hk.1.1.1.2, ⟨hk.1.1.2, ⟨hk.1.2, ⟨hk.2, hk.1.1.1.1.2⟩⟩⟩⟩⟩⟩⟩⟩)⟩, ⟨by (with_reducible repeat (first | apply Kd.R_alloc | apply Kd.R_drewN | apply Kd.R_drew)); exact Kd.R_mono HO608.out (fun _ hk => ⟨hk.1.1.1.1.1.1.1.1, ⟨hk.1.1.1.1.1.1.2, ⟨hk.1.1.1.1.1.2, ⟨hk.1.1.1.1.2, ⟨hk.1.1.1.2, ⟨hk.1.1.1.1.1.1.1.2, ⟨hk.1.2, ⟨hk.2, hk.1.1.2⟩⟩⟩⟩⟩⟩⟩⟩)⟩, ⟨by (with_reducible repeat (first | apply Kd.R_alloc | apply Kd.R_drewN | apply Kd.R_drew)); exact Kd.R_mono HO611.out (fun _ hk => ⟨hk.1.1.1.1.1.1.1.1, ⟨hk.1.1.1.1.1.1.2, ⟨hk.1.1.1.1.1.2, ⟨hk.1.1.1.1.2, ⟨hk.1.1.1.2, ⟨hk.1.1.1.1.1.1.1.2, ⟨hk.1.2, ⟨hk.2, hk.1.1.2⟩⟩⟩⟩⟩⟩⟩⟩)⟩, ⟨by (with_reducible repeat (first | apply Kd.R_alloc | apply Kd.R_drewN | apply Kd.R_drew)); exact Kd.R_mono HO619.out (fun _ hk => ⟨hk.1.1.1.1.1.1.1.1, ⟨hk.1.1.1.1.1.1.2, ⟨hk.1.1.1.1.1.2, ⟨hk.1.1.1.1.2, ⟨hk.1.1.1.2, ⟨hk.1.1.2, ⟨hk.1.2, ⟨hk.1.1.1.1.1.1.1.2, hk.2⟩⟩⟩⟩⟩⟩⟩⟩)⟩, ⟨by (with_reducible repeat (first | apply Kd.R_alloc | apply Kd.R_drewN | apply Kd.R_drew)); exact Kd.R_mono HO622.out (fun _ hk => ⟨hk.1.1.1.1.1.1.1.1, ⟨hk.1.1.1.1.1.1.2, ⟨hk.1.1.1.1.1.2, ⟨hk.1.1.1.1.2, ⟨hk.1.1.1.2, ⟨hk.1.1.2, ⟨hk.1.2, ⟨hk.1.1.1.1.1.1.1.2, hk.2⟩⟩⟩⟩⟩⟩⟩⟩)⟩, ⟨bk_ BK578⟩, ⟨bk_ BK582⟩, ⟨bk_ BK593⟩, ⟨bk_ BK604⟩, ⟨bk_ BK615⟩, ⟨bk_ BK626⟩, ⟨bel_⟩⟩
                        · rw [if_neg c71] at H
                          have c71b0 : (t629 == 0) = false := beq_eq_false_iff_ne.mpr c71
                          have c71b1 : (t629 != 0) = true := bne_iff_ne.mpr c71
                          have H' := Aside0.mk H
                          clear H
                          have hnb118 := NB593_578.out
                          have hnc118 := NB578_593.out
                          have hnb119 := NB593_582.out
                          have hnc119 := NB582_593.out
                          have hnb120 := NB593_604.out
                          have hnc120 := NB604_593.out
                          have hnb121 := NB593_615.out
                          have hnc121 := NB615_593.out
                          have hnb122 := NB593_626.out
                          have hnc122 := NB626_593.out
                          obtain ⟨hcz123_0, hcz123_1, hcz123_2, hcz123_3, hcz123_4⟩ := cl5_ BK593
                          obtain ⟨hfz123_0, hfz123_1, hfz123_2, hfz123_3, hfz123_4⟩ := fz5_ BK593
                          go_wp2_with (first | ((with_reducible refine gate_callee (f := 21) rfl ?_); refine gl_ (some 61) Tryd.func21 #[.agg #[.int .u32 t583, .slice Ao35 t584.length co35, .slice Ao36 t587.length co36, .bool t590, .int .i64 t591]] ?_; (with_reducible refine (dev_Check.calls k1 t583 _ _ t584 _ _ t587 t590 t591 t627 _ ?side1 ?side2 ?side3 ?side4 A66.out).mono ?_); (case side1 => exact (Kd.R_reads' (rw_ HO586)).2.2); (case side2 => exact (Kd.R_reads' HO586.out).2.1); (case side3 => exact (Kd.R_reads' (rw_ HO589)).2.2); (case side4 => exact (Kd.R_reads' HO589.out).2.1); rintro e w124 ⟨rfl, hb⟩; refine ⟨_, rfl, ?_⟩; replace HO_579001 := Aside0.mk (Kd.V_below (by (with_reducible repeat (first | apply Kd.V_alloc | apply Kd.V_drewN | apply Kd.V_drew)); exact (Kd.V_mono (Kd.V_far (p := ⟨gb626, 4, none⟩) (Kd.V_far (p := ⟨gb626, 3, none⟩) (Kd.V_far (p := ⟨gb626, 2, none⟩) (Kd.V_far (p := ⟨gb626, 1, none⟩) (Kd.V_far (p := ⟨gb626, 0, none⟩) (Kd.V_mono HO_579001.out (fun k_ hk => (⟨hk, hk.2⟩ : _ ∧ k_ ≠ gb626))) (fun _ hk => hk.2) (.int .u32 t616)) (fun _ hk => hk.2) (.slice Ao64 t617.length co64)) (fun _ hk => hk.2) (.slice Ao65 t620.length co65)) (fun _ hk => hk.2) (.bool t623)) (fun _ hk => hk.2) (.int .i64 t624)) (fun _ h_ => h_.1))) hb); replace HO_579002 := Aside0.mk (Kd.V_below (by (with_reducible repeat (first | apply Kd.V_alloc | apply Kd.V_drewN | apply Kd.V_drew)); exact (Kd.V_mono (Kd.V_far (p := ⟨gb626, 4, none⟩) (Kd.V_far (p := ⟨gb626, 3, none⟩) (Kd.V_far (p := ⟨gb626, 2, none⟩) (Kd.V_far (p := ⟨gb626, 1, none⟩) (Kd.V_far (p := ⟨gb626, 0, none⟩) (Kd.V_mono HO_579002.out (fun k_ hk => (⟨hk, hk.2⟩ : _ ∧ k_ ≠ gb626))) (fun _ hk => hk.2) (.int .u32 t616)) (fun _ hk => hk.2) (.slice Ao64 t617.length co64)) (fun _ hk => hk.2) (.slice Ao65 t620.length co65)) (fun _ hk => hk.2) (.bool t623)) (fun _ hk => hk.2) (.int .i64 t624)) (fun _ h_ => h_.1))) hb); replace HO586 := Aside0.mk (Kd.R_below (rw_ HO586) hb); replace HO589 := Aside0.mk (Kd.R_below (rw_ HO589) hb); replace HO597 := Aside0.mk (Kd.R_below (rw_ HO597) hb); replace HO600 := Aside0.mk (Kd.R_below (rw_ HO600) hb); replace HO608 := Aside0.mk (Kd.R_below (rw_ HO608) hb); replace HO611 := Aside0.mk (Kd.R_below (rw_ HO611) hb); replace HO619 := Aside0.mk (Kd.R_below (rw_ HO619) hb); replace HO622 := Aside0.mk (Kd.R_below (rw_ HO622) hb); replace BK578 := Aside0.mk (blk_below (g := gb578) (o := .cells #[.int .u32 x579000_1, .slice Ao28 x579001_1.length co28, .slice Ao29 x579002_1.length co29, .bool x579003_1, .int .i64 x579004_1] 25 (0, 0)) (bs_) hb); replace BK582 := Aside0.mk (blk_below (g := gb582) (o := .cells #[.int .u32 ((rd_T39 l1 x24_1).f0), .string ((rd_T39 l1 x24_1).f1)] 39 (0, 0)) (bs_) hb); replace BK593 := Aside0.mk (blk_below (g := gb593) (o := .cells #[.int .u32 t583, .slice Ao35 t584.length co35, .slice Ao36 t587.length co36, .bool t590, .int .i64 t591] 25 (0, 0)) (bs_) hb); replace BK604 := Aside0.mk (blk_below (g := gb604) (o := .cells #[.int .u32 t594, .slice Ao44 t595.length co44, .slice Ao45 t598.length co45, .bool t601, .int .i64 t602] 25 (0, 0)) (bs_) hb); replace BK615 := Aside0.mk (blk_below (g := gb615) (o := .cells #[.int .u32 t605, .slice Ao53 t606.length co53, .slice Ao54 t609.length co54, .bool t612, .int .i64 t613] 25 (0, 0)) (bs_) hb); replace HB := hb_ hb; replace BK626 := Aside0.mk (blk_below (g := gb626) (o := .cells #[.int .u32 t616, .slice Ao64 t617.length co64, .slice Ao65 t620.length co65, .bool t623, .int .i64 t624] 25 (0, 0)) (bs_) hb); (try clear hb); (try clear hb2); (try clear hk); (try clear hi); have hnb125 := NB604_578.out; have hnc125 := NB578_604.out; have hnb126 := NB604_582.out; have hnc126 := NB582_604.out; have hnb127 := NB604_615.out; have hnc127 := NB615_604.out; have hnb128 := NB604_626.out; have hnc128 := NB626_604.out; obtain ⟨hcz129_0, hcz129_1, hcz129_2, hcz129_3, hcz129_4⟩ := cl5_ BK604; obtain ⟨hfz129_0, hfz129_1, hfz129_2, hfz129_3, hfz129_4⟩ := fz5_ BK604) | (go_at_call 21; (with_reducible refine (dev_Check.calls k1 t594 _ _ t595 _ _ t598 t601 t602 t628 _ ?side1 ?side2 ?side3 ?side4 A68.out).mono ?_); (case side1 => exact cr_ HO597); (case side2 => exact (Kd.R_reads' HO597.out).2.1); (case side3 => exact cr_ HO600); (case side4 => exact (Kd.R_reads' HO600.out).2.1); rintro e w130 ⟨rfl, hb⟩; replace HO_579001 := Aside0.mk (Kd.V_below (by (with_reducible repeat (first | apply Kd.V_alloc | apply Kd.V_drewN | apply Kd.V_drew)); exact HO_579001.out) hb); replace HO_579002 := Aside0.mk (Kd.V_below (by (with_reducible repeat (first | apply Kd.V_alloc | apply Kd.V_drewN | apply Kd.V_drew)); exact HO_579002.out) hb); replace HO586 := rb_ HO586 hb; replace HO589 := rb_ HO589 hb; replace HO597 := rb_ HO597 hb; replace HO600 := rb_ HO600 hb; replace HO608 := rb_ HO608 hb; replace HO611 := rb_ HO611 hb; replace HO619 := rb_ HO619 hb; replace HO622 := rb_ HO622 hb; replace BK578 := kb_ BK578 hb; replace BK582 := kb_ BK582 hb; replace BK593 := kb_ BK593 hb; replace BK604 := kb_ BK604 hb; replace BK615 := kb_ BK615 hb; replace BK626 := kb_ BK626 hb; replace HB := hb_ hb; (try clear hb); (try clear hb2); (try clear hk); (try clear hi); have hnb131 := NB615_578.out; have hnc131 := NB578_615.out; have hnb132 := NB615_582.out; have hnc132 := NB582_615.out; have hnb133 := NB615_626.out; have hnc133 := NB626_615.out; obtain ⟨hcz134_0, hcz134_1, hcz134_2, hcz134_3, hcz134_4⟩ := cl5_ BK615; obtain ⟨hfz134_0, hfz134_1, hfz134_2, hfz134_3, hfz134_4⟩ := fz5_ BK615) | (go_at_call 21; (with_reducible refine (dev_Check.calls k1 t605 _ _ t606 _ _ t609 t612 t613 t629 _ ?side1 ?side2 ?side3 ?side4 A70.out).mono ?_); (case side1 => exact cr_ HO608); (case side2 => exact (Kd.R_reads' HO608.out).2.1); (case side3 => exact cr_ HO611); (case side4 => exact (Kd.R_reads' HO611.out).2.1); rintro e w135 ⟨rfl, hb⟩; replace HO_579001 := Aside0.mk (Kd.V_below (by (with_reducible repeat (first | apply Kd.V_alloc | apply Kd.V_drewN | apply Kd.V_drew)); exact HO_579001.out) hb); replace HO_579002 := Aside0.mk (Kd.V_below (by (with_reducible repeat (first | apply Kd.V_alloc | apply Kd.V_drewN | apply Kd.V_drew)); exact HO_579002.out) hb); replace HO586 := rb_ HO586 hb; replace HO589 := rb_ HO589 hb; replace HO597 := rb_ HO597 hb; replace HO600 := rb_ HO600 hb; replace HO608 := rb_ HO608 hb; replace HO611 := rb_ HO611 hb; replace HO619 := rb_ HO619 hb; replace HO622 := rb_ HO622 hb; replace BK578 := kb_ BK578 hb; replace BK582 := kb_ BK582 hb; replace BK593 := kb_ BK593 hb; replace BK604 := kb_ BK604 hb; replace BK615 := kb_ BK615 hb; replace BK626 := kb_ BK626 hb; replace HB := hb_ hb; (try clear hb); (try clear hb2); (try clear hk); (try clear hi)))
                          go_meet
                          case rel => exact ⟨_, (true), (by first | rfl | (simp; done) | (simp [*]; done)), H', ⟨by have := HK1.out; first | omega | exact Nat.le_refl _⟩, ⟨by (with_reducible repeat (first | apply Kd.V_alloc | apply Kd.V_drewN | apply Kd.V_drew)); exact Kd.V_mono HO_579001.out (fun _ hk => ⟨hk.1.1.1.1.1.1.1.1.1.1.1.1.1.1, ⟨hk.1.1.1.1.1.1.1.1.1.1.1.2, ⟨hk.1.1.1.1.1.1.1.1.1.1.2, ⟨hk.1.1.1.1.1.1.1.1.2, ⟨hk.1.1.1.1.1.1.1.2, ⟨hk.1.1.1.1.1.2, ⟨hk.1.1.1.1.2, ⟨hk.1.1.2, ⟨hk.1.2, ⟨hk.1.1.1.1.1.1.1.1.1.1.1.1.1.2, ⟨hk.1.1.1.1.1.1.1.1.1.1.1.1.2, ⟨hk.1.1.1.1.1.1.1.1.1.2, ⟨hk.1.1.1.1.1.1.2, ⟨hk.1.1.1.2, hk.2⟩⟩⟩⟩⟩⟩⟩⟩⟩⟩⟩⟩⟩⟩)⟩, ⟨by (with_reducible repeat (first | apply Kd.V_alloc | apply Kd.V_drewN | apply Kd.V_drew)); exact Kd.V_mono HO_579002.out (fun _ hk => ⟨hk.1.1.1.1.1.1.1.1.1.1.1.1.1.1, ⟨hk.1.1.1.1.1.1.1.1.1.1.1.2, ⟨hk.1.1.1.1.1.1.1.1.1.1.2, ⟨hk.1.1.1.1.1.1.1.1.2, ⟨hk.1.1.1.1.1.1.1.2, ⟨hk.1.1.1.1.1.2, ⟨hk.1.1.1.1.2, ⟨hk.1.1.2, ⟨hk.1.2, ⟨hk.1.1.1.1.1.1.1.1.1.1.1.1.1.2, ⟨hk.1.1.1.1.1.1.1.1.1.1.1.1.2, ⟨hk.1.1.1.1.1.1.1.1.1.2, ⟨hk.1.1.1.1.1.1.2, ⟨hk.1.1.1.2, hk.2⟩⟩⟩⟩⟩⟩⟩⟩⟩⟩⟩⟩⟩⟩)⟩, ⟨by (with_reducible repeat (first | apply Kd.R_alloc | apply Kd.R_drewN | apply Kd.R_drew)); exact Kd.R_mono HO586.out (fun _ hk => ⟨hk.1.1.1.1.1.1.1.1, ⟨hk.1.1.1.1.1.1.1.2, ⟨hk.1.1.1.1.1.2, ⟨hk.1.1.1.1.2, ⟨hk.1.1.1.2, ⟨hk.1.1.2, ⟨hk.1.2, ⟨hk.2, hk.1.1.1.1.1.1.2⟩⟩⟩⟩⟩⟩⟩⟩)⟩, ⟨by (with_reducible repeat (first | apply Kd.R_alloc | apply Kd.R_drewN | apply Kd.R_drew)); exact Kd.R_mono HO589.out (fun _ hk => ⟨hk.1.1.1.1.1.1.1.1, ⟨hk.1.1.1.1.1.1.1.2, ⟨hk.1.1.1.1.1.2, ⟨hk.1.1.1.1.2, ⟨hk.1.1.1.2, ⟨hk.1.1.2, ⟨hk.1.2, ⟨hk.2, hk.1.1.1.1.1.1.2⟩⟩⟩⟩⟩⟩⟩⟩)⟩, ⟨by (with_reducible repeat (first | apply Kd.R_alloc | apply Kd.R_drewN | apply Kd.R_drew)); exact Kd.R_mono HO597.out (fun _ hk => ⟨hk.1.1.1.1.1.1.1.1, ⟨hk.1.1.1.1.1.1.2, ⟨hk.1.1.1.1.1.2, ⟨hk.1.1.1.1.1.1.1.2, ⟨hk.1.1.1.2, ⟨hk.1.1.2, ⟨hk.1.2, ⟨hk.2, hk.1.1.1.1.2⟩⟩⟩⟩⟩⟩⟩⟩)⟩, ⟨by (with_reducible repeat (first | apply Kd.R_alloc | apply Kd.R_drewN | apply Kd.R_drew)); exact Kd.R_mono HO600.out (fun _ hk => ⟨hk.1.1.1.1.1.1.1.1, ⟨hk.1.1.1.1.1.1.2, ⟨hk.1.1.1.1.1.2, ⟨hk.1.1.1.1.1.1.1.2, ⟨hk.1.1.1.2, ⟨hk.1.1.2, ⟨hk.1.2, ⟨hk.2, hk.1.1.1.1.2⟩⟩⟩⟩⟩⟩⟩⟩)⟩, ⟨by (with_reducible repeat (first | apply Kd.R_alloc | apply Kd.R_drewN | apply Kd.R_drew)); exact Kd.R_mono HO608.out (fun _ hk => ⟨hk.1.1.1.1.1.1.1.1, ⟨hk.1.1.1.1.1.1.2, ⟨hk.1.1.1.1.1.2, ⟨hk.1.1.1.1.2, ⟨hk.1.1.1.2, ⟨hk.1.1.1.1.1.1.1.2, ⟨hk.1.2, ⟨hk.2, hk.1.1.2⟩⟩⟩⟩⟩⟩⟩⟩)⟩, ⟨by (with_reducible repeat (first | apply Kd.R_alloc | apply Kd.R_drewN | apply Kd.R_drew)); exact Kd.R_mono HO611.out (fun _ hk => ⟨hk.1.1.1.1.1.1.1.1, ⟨hk.1.1.1.1.1.1.2, ⟨hk.1.1.1.1.1.2, ⟨hk.1.1.1.1.2, ⟨hk.1.1.1.2, ⟨hk.1.1.1.1.1.1.1.2, ⟨hk.1.2, ⟨hk.2, hk.1.1.2⟩⟩⟩⟩⟩⟩⟩⟩)⟩, ⟨by (with_reducible repeat (first | apply Kd.R_alloc | apply Kd.R_drewN | apply Kd.R_drew)); exact Kd.R_mono HO619.out (fun _ hk => ⟨hk.1.1.1.1.1.1.1.1, ⟨hk.1.1.1.1.1.1.2, ⟨hk.1.1.1.1.1.2, ⟨hk.1.1.1.1.2, ⟨hk.1.1.1.2, ⟨hk.1.1.2, ⟨hk.1.2, ⟨hk.1.1.1.1.1.1.1.2, hk.2⟩⟩⟩⟩⟩⟩⟩⟩)⟩, ⟨by (with_reducible repeat (first | apply Kd.R_alloc | apply Kd.R_drewN | apply Kd.R_drew)); exact Kd.R_mono HO622.out (fun _ hk => ⟨hk.1.1.1.1.1.1.1.1, ⟨hk.1.1.1.1.1.1.2, ⟨hk.1.1.1.1.1.2, ⟨hk.1.1.1.1.2, ⟨hk.1.1.1.2, ⟨hk.1.1.2, ⟨hk.1.2, ⟨hk.1.1.1.1.1.1.1.2, hk.2⟩⟩⟩⟩⟩⟩⟩⟩)⟩, ⟨bk_ BK578⟩, ⟨bk_ BK582⟩, ⟨bk_ BK593⟩, ⟨bk_ BK604⟩, ⟨bk_ BK615⟩, ⟨bk_ BK626⟩, ⟨bel_⟩⟩
                      · rw [if_neg c69] at H
                        have c69b0 : (t628 == 0) = false := beq_eq_false_iff_ne.mpr c69
                        have c69b1 : (t628 != 0) = true := bne_iff_ne.mpr c69
                        have H' := Aside0.mk H
                        clear H
                        have hnb136 := NB593_578.out
                        have hnc136 := NB578_593.out
                        have hnb137 := NB593_582.out
                        have hnc137 := NB582_593.out
                        have hnb138 := NB593_604.out
                        have hnc138 := NB604_593.out
                        have hnb139 := NB593_615.out
                        have hnc139 := NB615_593.out
                        have hnb140 := NB593_626.out
                        have hnc140 := NB626_593.out
                        obtain ⟨hcz141_0, hcz141_1, hcz141_2, hcz141_3, hcz141_4⟩ := cl5_ BK593
                        obtain ⟨hfz141_0, hfz141_1, hfz141_2, hfz141_3, hfz141_4⟩ := fz5_ BK593
                        go_wp2_with (first | ((with_reducible refine gate_callee (f := 21) rfl ?_); refine gl_ (some 61) Tryd.func21 #[.agg #[.int .u32 t583, .slice Ao35 t584.length co35, .slice Ao36 t587.length co36, .bool t590, .int .i64 t591]] ?_; (with_reducible refine (dev_Check.calls k1 t583 _ _ t584 _ _ t587 t590 t591 t627 _ ?side1 ?side2 ?side3 ?side4 A66.out).mono ?_); (case side1 => exact (Kd.R_reads' (rw_ HO586)).2.2); (case side2 => exact (Kd.R_reads' HO586.out).2.1); (case side3 => exact (Kd.R_reads' (rw_ HO589)).2.2); (case side4 => exact (Kd.R_reads' HO589.out).2.1); rintro e w142 ⟨rfl, hb⟩; refine ⟨_, rfl, ?_⟩; replace HO_579001 := Aside0.mk (Kd.V_below (by (with_reducible repeat (first | apply Kd.V_alloc | apply Kd.V_drewN | apply Kd.V_drew)); exact (Kd.V_mono (Kd.V_far (p := ⟨gb626, 4, none⟩) (Kd.V_far (p := ⟨gb626, 3, none⟩) (Kd.V_far (p := ⟨gb626, 2, none⟩) (Kd.V_far (p := ⟨gb626, 1, none⟩) (Kd.V_far (p := ⟨gb626, 0, none⟩) (Kd.V_mono HO_579001.out (fun k_ hk => (⟨hk, hk.2⟩ : _ ∧ k_ ≠ gb626))) (fun _ hk => hk.2) (.int .u32 t616)) (fun _ hk => hk.2) (.slice Ao64 t617.length co64)) (fun _ hk => hk.2) (.slice Ao65 t620.length co65)) (fun _ hk => hk.2) (.bool t623)) (fun _ hk => hk.2) (.int .i64 t624)) (fun _ h_ => h_.1))) hb); replace HO_579002 := Aside0.mk (Kd.V_below (by (with_reducible repeat (first | apply Kd.V_alloc | apply Kd.V_drewN | apply Kd.V_drew)); exact (Kd.V_mono (Kd.V_far (p := ⟨gb626, 4, none⟩) (Kd.V_far (p := ⟨gb626, 3, none⟩) (Kd.V_far (p := ⟨gb626, 2, none⟩) (Kd.V_far (p := ⟨gb626, 1, none⟩) (Kd.V_far (p := ⟨gb626, 0, none⟩) (Kd.V_mono HO_579002.out (fun k_ hk => (⟨hk, hk.2⟩ : _ ∧ k_ ≠ gb626))) (fun _ hk => hk.2) (.int .u32 t616)) (fun _ hk => hk.2) (.slice Ao64 t617.length co64)) (fun _ hk => hk.2) (.slice Ao65 t620.length co65)) (fun _ hk => hk.2) (.bool t623)) (fun _ hk => hk.2) (.int .i64 t624)) (fun _ h_ => h_.1))) hb); replace HO586 := Aside0.mk (Kd.R_below (rw_ HO586) hb); replace HO589 := Aside0.mk (Kd.R_below (rw_ HO589) hb); replace HO597 := Aside0.mk (Kd.R_below (rw_ HO597) hb); replace HO600 := Aside0.mk (Kd.R_below (rw_ HO600) hb); replace HO608 := Aside0.mk (Kd.R_below (rw_ HO608) hb); replace HO611 := Aside0.mk (Kd.R_below (rw_ HO611) hb); replace HO619 := Aside0.mk (Kd.R_below (rw_ HO619) hb); replace HO622 := Aside0.mk (Kd.R_below (rw_ HO622) hb); replace BK578 := Aside0.mk (blk_below (g := gb578) (o := .cells #[.int .u32 x579000_1, .slice Ao28 x579001_1.length co28, .slice Ao29 x579002_1.length co29, .bool x579003_1, .int .i64 x579004_1] 25 (0, 0)) (bs_) hb); replace BK582 := Aside0.mk (blk_below (g := gb582) (o := .cells #[.int .u32 ((rd_T39 l1 x24_1).f0), .string ((rd_T39 l1 x24_1).f1)] 39 (0, 0)) (bs_) hb); replace BK593 := Aside0.mk (blk_below (g := gb593) (o := .cells #[.int .u32 t583, .slice Ao35 t584.length co35, .slice Ao36 t587.length co36, .bool t590, .int .i64 t591] 25 (0, 0)) (bs_) hb); replace BK604 := Aside0.mk (blk_below (g := gb604) (o := .cells #[.int .u32 t594, .slice Ao44 t595.length co44, .slice Ao45 t598.length co45, .bool t601, .int .i64 t602] 25 (0, 0)) (bs_) hb); replace BK615 := Aside0.mk (blk_below (g := gb615) (o := .cells #[.int .u32 t605, .slice Ao53 t606.length co53, .slice Ao54 t609.length co54, .bool t612, .int .i64 t613] 25 (0, 0)) (bs_) hb); replace HB := hb_ hb; replace BK626 := Aside0.mk (blk_below (g := gb626) (o := .cells #[.int .u32 t616, .slice Ao64 t617.length co64, .slice Ao65 t620.length co65, .bool t623, .int .i64 t624] 25 (0, 0)) (bs_) hb); (try clear hb); (try clear hb2); (try clear hk); (try clear hi); have hnb143 := NB604_578.out; have hnc143 := NB578_604.out; have hnb144 := NB604_582.out; have hnc144 := NB582_604.out; have hnb145 := NB604_615.out; have hnc145 := NB615_604.out; have hnb146 := NB604_626.out; have hnc146 := NB626_604.out; obtain ⟨hcz147_0, hcz147_1, hcz147_2, hcz147_3, hcz147_4⟩ := cl5_ BK604; obtain ⟨hfz147_0, hfz147_1, hfz147_2, hfz147_3, hfz147_4⟩ := fz5_ BK604) | (go_at_call 21; (with_reducible refine (dev_Check.calls k1 t594 _ _ t595 _ _ t598 t601 t602 t628 _ ?side1 ?side2 ?side3 ?side4 A68.out).mono ?_); (case side1 => exact cr_ HO597); (case side2 => exact (Kd.R_reads' HO597.out).2.1); (case side3 => exact cr_ HO600); (case side4 => exact (Kd.R_reads' HO600.out).2.1); rintro e w148 ⟨rfl, hb⟩; replace HO_579001 := Aside0.mk (Kd.V_below (by (with_reducible repeat (first | apply Kd.V_alloc | apply Kd.V_drewN | apply Kd.V_drew)); exact HO_579001.out) hb); replace HO_579002 := Aside0.mk (Kd.V_below (by (with_reducible repeat (first | apply Kd.V_alloc | apply Kd.V_drewN | apply Kd.V_drew)); exact HO_579002.out) hb); replace HO586 := rb_ HO586 hb; replace HO589 := rb_ HO589 hb; replace HO597 := rb_ HO597 hb; replace HO600 := rb_ HO600 hb; replace HO608 := rb_ HO608 hb; replace HO611 := rb_ HO611 hb; replace HO619 := rb_ HO619 hb; replace HO622 := rb_ HO622 hb; replace BK578 := kb_ BK578 hb; replace BK582 := kb_ BK582 hb; replace BK593 := kb_ BK593 hb; replace BK604 := kb_ BK604 hb; replace BK615 := kb_ BK615 hb; replace BK626 := kb_ BK626 hb; replace HB := hb_ hb; (try clear hb); (try clear hb2); (try clear hk); (try clear hi)))
                        go_meet
                        case rel => exact ⟨_, (true), (by first | rfl | (simp; done) | (simp [*]; done)), H', ⟨by have := HK1.out; first | omega | exact Nat.le_refl _⟩, ⟨by (with_reducible repeat (first | apply Kd.V_alloc | apply Kd.V_drewN | apply Kd.V_drew)); exact Kd.V_mono HO_579001.out (fun _ hk => ⟨hk.1.1.1.1.1.1.1.1.1.1.1.1.1.1, ⟨hk.1.1.1.1.1.1.1.1.1.1.1.2, ⟨hk.1.1.1.1.1.1.1.1.1.1.2, ⟨hk.1.1.1.1.1.1.1.1.2, ⟨hk.1.1.1.1.1.1.1.2, ⟨hk.1.1.1.1.1.2, ⟨hk.1.1.1.1.2, ⟨hk.1.1.2, ⟨hk.1.2, ⟨hk.1.1.1.1.1.1.1.1.1.1.1.1.1.2, ⟨hk.1.1.1.1.1.1.1.1.1.1.1.1.2, ⟨hk.1.1.1.1.1.1.1.1.1.2, ⟨hk.1.1.1.1.1.1.2, ⟨hk.1.1.1.2, hk.2⟩⟩⟩⟩⟩⟩⟩⟩⟩⟩⟩⟩⟩⟩)⟩, ⟨by (with_reducible repeat (first | apply Kd.V_alloc | apply Kd.V_drewN | apply Kd.V_drew)); exact Kd.V_mono HO_579002.out (fun _ hk => ⟨hk.1.1.1.1.1.1.1.1.1.1.1.1.1.1, ⟨hk.1.1.1.1.1.1.1.1.1.1.1.2, ⟨hk.1.1.1.1.1.1.1.1.1.1.2, ⟨hk.1.1.1.1.1.1.1.1.2, ⟨hk.1.1.1.1.1.1.1.2, ⟨hk.1.1.1.1.1.2, ⟨hk.1.1.1.1.2, ⟨hk.1.1.2, ⟨hk.1.2, ⟨hk.1.1.1.1.1.1.1.1.1.1.1.1.1.2, ⟨hk.1.1.1.1.1.1.1.1.1.1.1.1.2, ⟨hk.1.1.1.1.1.1.1.1.1.2, ⟨hk.1.1.1.1.1.1.2, ⟨hk.1.1.1.2, hk.2⟩⟩⟩⟩⟩⟩⟩⟩⟩⟩⟩⟩⟩⟩)⟩, ⟨by (with_reducible repeat (first | apply Kd.R_alloc | apply Kd.R_drewN | apply Kd.R_drew)); exact Kd.R_mono HO586.out (fun _ hk => ⟨hk.1.1.1.1.1.1.1.1, ⟨hk.1.1.1.1.1.1.1.2, ⟨hk.1.1.1.1.1.2, ⟨hk.1.1.1.1.2, ⟨hk.1.1.1.2, ⟨hk.1.1.2, ⟨hk.1.2, ⟨hk.2, hk.1.1.1.1.1.1.2⟩⟩⟩⟩⟩⟩⟩⟩)⟩, ⟨by (with_reducible repeat (first | apply Kd.R_alloc | apply Kd.R_drewN | apply Kd.R_drew)); exact Kd.R_mono HO589.out (fun _ hk => ⟨hk.1.1.1.1.1.1.1.1, ⟨hk.1.1.1.1.1.1.1.2, ⟨hk.1.1.1.1.1.2, ⟨hk.1.1.1.1.2, ⟨hk.1.1.1.2, ⟨hk.1.1.2, ⟨hk.1.2, ⟨hk.2, hk.1.1.1.1.1.1.2⟩⟩⟩⟩⟩⟩⟩⟩)⟩, ⟨by (with_reducible repeat (first | apply Kd.R_alloc | apply Kd.R_drewN | apply Kd.R_drew)); exact Kd.R_mono HO597.out (fun _ hk => ⟨hk.1.1.1.1.1.1.1.1, ⟨hk.1.1.1.1.1.1.2, ⟨hk.1.1.1.1.1.2, ⟨hk.1.1.1.1.1.1.1.2, ⟨hk.1.1.1.2, ⟨hk.1.1.2, ⟨hk.1.2, ⟨hk.2, hk.1.1.1.1.2⟩⟩⟩⟩⟩⟩⟩⟩)⟩, ⟨by (with_reducible repeat (first | apply Kd.R_alloc | apply Kd.R_drewN | apply Kd.R_drew)); exact Kd.R_mono HO600.out (fun _ hk => ⟨hk.1.1.1.1.1.1.1.1, ⟨hk.1.1.1.1.1.1.2, ⟨hk.1.1.1.1.1.2, ⟨hk.1.1.1.1.1.1.1.2, ⟨hk.1.1.1.2, ⟨hk.1.1.2, ⟨hk.1.2, ⟨hk.2, hk.1.1.1.1.2⟩⟩⟩⟩⟩⟩⟩⟩)⟩, ⟨by (with_reducible repeat (first | apply Kd.R_alloc | apply Kd.R_drewN | apply Kd.R_drew)); exact Kd.R_mono HO608.out (fun _ hk => ⟨hk.1.1.1.1.1.1.1.1, ⟨hk.1.1.1.1.1.1.2, ⟨hk.1.1.1.1.1.2, ⟨hk.1.1.1.1.2, ⟨hk.1.1.1.2, ⟨hk.1.1.1.1.1.1.1.2, ⟨hk.1.2, ⟨hk.2, hk.1.1.2⟩⟩⟩⟩⟩⟩⟩⟩)⟩, ⟨by (with_reducible repeat (first | apply Kd.R_alloc | apply Kd.R_drewN | apply Kd.R_drew)); exact Kd.R_mono HO611.out (fun _ hk => ⟨hk.1.1.1.1.1.1.1.1, ⟨hk.1.1.1.1.1.1.2, ⟨hk.1.1.1.1.1.2, ⟨hk.1.1.1.1.2, ⟨hk.1.1.1.2, ⟨hk.1.1.1.1.1.1.1.2, ⟨hk.1.2, ⟨hk.2, hk.1.1.2⟩⟩⟩⟩⟩⟩⟩⟩)⟩, ⟨by (with_reducible repeat (first | apply Kd.R_alloc | apply Kd.R_drewN | apply Kd.R_drew)); exact Kd.R_mono HO619.out (fun _ hk => ⟨hk.1.1.1.1.1.1.1.1, ⟨hk.1.1.1.1.1.1.2, ⟨hk.1.1.1.1.1.2, ⟨hk.1.1.1.1.2, ⟨hk.1.1.1.2, ⟨hk.1.1.2, ⟨hk.1.2, ⟨hk.1.1.1.1.1.1.1.2, hk.2⟩⟩⟩⟩⟩⟩⟩⟩)⟩, ⟨by (with_reducible repeat (first | apply Kd.R_alloc | apply Kd.R_drewN | apply Kd.R_drew)); exact Kd.R_mono HO622.out (fun _ hk => ⟨hk.1.1.1.1.1.1.1.1, ⟨hk.1.1.1.1.1.1.2, ⟨hk.1.1.1.1.1.2, ⟨hk.1.1.1.1.2, ⟨hk.1.1.1.2, ⟨hk.1.1.2, ⟨hk.1.2, ⟨hk.1.1.1.1.1.1.1.2, hk.2⟩⟩⟩⟩⟩⟩⟩⟩)⟩, ⟨bk_ BK578⟩, ⟨bk_ BK582⟩, ⟨bk_ BK593⟩, ⟨bk_ BK604⟩, ⟨bk_ BK615⟩, ⟨bk_ BK626⟩, ⟨bel_⟩⟩
                    · rw [if_neg c67] at H
                      have c67b0 : (t627 == 0) = false := beq_eq_false_iff_ne.mpr c67
                      have c67b1 : (t627 != 0) = true := bne_iff_ne.mpr c67
                      (first | rw [c67b0] | (simp only [i64_w, i32_w]; rw [c67b0]) | skip)
                      have H' := Aside0.mk H
                      clear H
                      have hnb149 := NB593_578.out
                      have hnc149 := NB578_593.out
                      have hnb150 := NB593_582.out
                      have hnc150 := NB582_593.out
                      have hnb151 := NB593_604.out
                      have hnc151 := NB604_593.out
                      have hnb152 := NB593_615.out
                      have hnc152 := NB615_593.out
                      have hnb153 := NB593_626.out
                      have hnc153 := NB626_593.out
                      obtain ⟨hcz154_0, hcz154_1, hcz154_2, hcz154_3, hcz154_4⟩ := cl5_ BK593
                      obtain ⟨hfz154_0, hfz154_1, hfz154_2, hfz154_3, hfz154_4⟩ := fz5_ BK593
                      go_wp2_with (first | ((with_reducible refine gate_callee (f := 21) rfl ?_); refine gl_ (some 61) Tryd.func21 #[.agg #[.int .u32 t583, .slice Ao35 t584.length co35, .slice Ao36 t587.length co36, .bool t590, .int .i64 t591]] ?_; (with_reducible refine (dev_Check.calls k1 t583 _ _ t584 _ _ t587 t590 t591 t627 _ ?side1 ?side2 ?side3 ?side4 A66.out).mono ?_); (case side1 => exact (Kd.R_reads' (rw_ HO586)).2.2); (case side2 => exact (Kd.R_reads' HO586.out).2.1); (case side3 => exact (Kd.R_reads' (rw_ HO589)).2.2); (case side4 => exact (Kd.R_reads' HO589.out).2.1); rintro e w155 ⟨rfl, hb⟩; refine ⟨_, rfl, ?_⟩; replace HO_579001 := Aside0.mk (Kd.V_below (by (with_reducible repeat (first | apply Kd.V_alloc | apply Kd.V_drewN | apply Kd.V_drew)); exact (Kd.V_mono (Kd.V_far (p := ⟨gb626, 4, none⟩) (Kd.V_far (p := ⟨gb626, 3, none⟩) (Kd.V_far (p := ⟨gb626, 2, none⟩) (Kd.V_far (p := ⟨gb626, 1, none⟩) (Kd.V_far (p := ⟨gb626, 0, none⟩) (Kd.V_mono HO_579001.out (fun k_ hk => (⟨hk, hk.2⟩ : _ ∧ k_ ≠ gb626))) (fun _ hk => hk.2) (.int .u32 t616)) (fun _ hk => hk.2) (.slice Ao64 t617.length co64)) (fun _ hk => hk.2) (.slice Ao65 t620.length co65)) (fun _ hk => hk.2) (.bool t623)) (fun _ hk => hk.2) (.int .i64 t624)) (fun _ h_ => h_.1))) hb); replace HO_579002 := Aside0.mk (Kd.V_below (by (with_reducible repeat (first | apply Kd.V_alloc | apply Kd.V_drewN | apply Kd.V_drew)); exact (Kd.V_mono (Kd.V_far (p := ⟨gb626, 4, none⟩) (Kd.V_far (p := ⟨gb626, 3, none⟩) (Kd.V_far (p := ⟨gb626, 2, none⟩) (Kd.V_far (p := ⟨gb626, 1, none⟩) (Kd.V_far (p := ⟨gb626, 0, none⟩) (Kd.V_mono HO_579002.out (fun k_ hk => (⟨hk, hk.2⟩ : _ ∧ k_ ≠ gb626))) (fun _ hk => hk.2) (.int .u32 t616)) (fun _ hk => hk.2) (.slice Ao64 t617.length co64)) (fun _ hk => hk.2) (.slice Ao65 t620.length co65)) (fun _ hk => hk.2) (.bool t623)) (fun _ hk => hk.2) (.int .i64 t624)) (fun _ h_ => h_.1))) hb); replace HO586 := Aside0.mk (Kd.R_below (rw_ HO586) hb); replace HO589 := Aside0.mk (Kd.R_below (rw_ HO589) hb); replace HO597 := Aside0.mk (Kd.R_below (rw_ HO597) hb); replace HO600 := Aside0.mk (Kd.R_below (rw_ HO600) hb); replace HO608 := Aside0.mk (Kd.R_below (rw_ HO608) hb); replace HO611 := Aside0.mk (Kd.R_below (rw_ HO611) hb); replace HO619 := Aside0.mk (Kd.R_below (rw_ HO619) hb); replace HO622 := Aside0.mk (Kd.R_below (rw_ HO622) hb); replace BK578 := Aside0.mk (blk_below (g := gb578) (o := .cells #[.int .u32 x579000_1, .slice Ao28 x579001_1.length co28, .slice Ao29 x579002_1.length co29, .bool x579003_1, .int .i64 x579004_1] 25 (0, 0)) (bs_) hb); replace BK582 := Aside0.mk (blk_below (g := gb582) (o := .cells #[.int .u32 ((rd_T39 l1 x24_1).f0), .string ((rd_T39 l1 x24_1).f1)] 39 (0, 0)) (bs_) hb); replace BK593 := Aside0.mk (blk_below (g := gb593) (o := .cells #[.int .u32 t583, .slice Ao35 t584.length co35, .slice Ao36 t587.length co36, .bool t590, .int .i64 t591] 25 (0, 0)) (bs_) hb); replace BK604 := Aside0.mk (blk_below (g := gb604) (o := .cells #[.int .u32 t594, .slice Ao44 t595.length co44, .slice Ao45 t598.length co45, .bool t601, .int .i64 t602] 25 (0, 0)) (bs_) hb); replace BK615 := Aside0.mk (blk_below (g := gb615) (o := .cells #[.int .u32 t605, .slice Ao53 t606.length co53, .slice Ao54 t609.length co54, .bool t612, .int .i64 t613] 25 (0, 0)) (bs_) hb); replace HB := hb_ hb; replace BK626 := Aside0.mk (blk_below (g := gb626) (o := .cells #[.int .u32 t616, .slice Ao64 t617.length co64, .slice Ao65 t620.length co65, .bool t623, .int .i64 t624] 25 (0, 0)) (bs_) hb); (try clear hb); (try clear hb2); (try clear hk); (try clear hi)))
                      go_meet
                      case rel => exact ⟨_, (true), (by first | rfl | (simp; done) | (simp [*]; done)), H', ⟨by have := HK1.out; first | omega | exact Nat.le_refl _⟩, ⟨by (with_reducible repeat (first | apply Kd.V_alloc | apply Kd.V_drewN | apply Kd.V_drew)); exact Kd.V_mono HO_579001.out (fun _ hk => ⟨hk.1.1.1.1.1.1.1.1.1.1.1.1.1.1, ⟨hk.1.1.1.1.1.1.1.1.1.1.1.2, ⟨hk.1.1.1.1.1.1.1.1.1.1.2, ⟨hk.1.1.1.1.1.1.1.1.2, ⟨hk.1.1.1.1.1.1.1.2, ⟨hk.1.1.1.1.1.2, ⟨hk.1.1.1.1.2, ⟨hk.1.1.2, ⟨hk.1.2, ⟨hk.1.1.1.1.1.1.1.1.1.1.1.1.1.2, ⟨hk.1.1.1.1.1.1.1.1.1.1.1.1.2, ⟨hk.1.1.1.1.1.1.1.1.1.2, ⟨hk.1.1.1.1.1.1.2, ⟨hk.1.1.1.2, hk.2⟩⟩⟩⟩⟩⟩⟩⟩⟩⟩⟩⟩⟩⟩)⟩, ⟨by (with_reducible repeat (first | apply Kd.V_alloc | apply Kd.V_drewN | apply Kd.V_drew)); exact Kd.V_mono HO_579002.out (fun _ hk => ⟨hk.1.1.1.1.1.1.1.1.1.1.1.1.1.1, ⟨hk.1.1.1.1.1.1.1.1.1.1.1.2, ⟨hk.1.1.1.1.1.1.1.1.1.1.2, ⟨hk.1.1.1.1.1.1.1.1.2, ⟨hk.1.1.1.1.1.1.1.2, ⟨hk.1.1.1.1.1.2, ⟨hk.1.1.1.1.2, ⟨hk.1.1.2, ⟨hk.1.2, ⟨hk.1.1.1.1.1.1.1.1.1.1.1.1.1.2, ⟨hk.1.1.1.1.1.1.1.1.1.1.1.1.2, ⟨hk.1.1.1.1.1.1.1.1.1.2, ⟨hk.1.1.1.1.1.1.2, ⟨hk.1.1.1.2, hk.2⟩⟩⟩⟩⟩⟩⟩⟩⟩⟩⟩⟩⟩⟩)⟩, ⟨by (with_reducible repeat (first | apply Kd.R_alloc | apply Kd.R_drewN | apply Kd.R_drew)); exact Kd.R_mono HO586.out (fun _ hk => ⟨hk.1.1.1.1.1.1.1.1, ⟨hk.1.1.1.1.1.1.1.2, ⟨hk.1.1.1.1.1.2, ⟨hk.1.1.1.1.2, ⟨hk.1.1.1.2, ⟨hk.1.1.2, ⟨hk.1.2, ⟨hk.2, hk.1.1.1.1.1.1.2⟩⟩⟩⟩⟩⟩⟩⟩)⟩, ⟨by (with_reducible repeat (first | apply Kd.R_alloc | apply Kd.R_drewN | apply Kd.R_drew)); exact Kd.R_mono HO589.out (fun _ hk => ⟨hk.1.1.1.1.1.1.1.1, ⟨hk.1.1.1.1.1.1.1.2, ⟨hk.1.1.1.1.1.2, ⟨hk.1.1.1.1.2, ⟨hk.1.1.1.2, ⟨hk.1.1.2, ⟨hk.1.2, ⟨hk.2, hk.1.1.1.1.1.1.2⟩⟩⟩⟩⟩⟩⟩⟩)⟩, ⟨by (with_reducible repeat (first | apply Kd.R_alloc | apply Kd.R_drewN | apply Kd.R_drew)); exact Kd.R_mono HO597.out (fun _ hk => ⟨hk.1.1.1.1.1.1.1.1, ⟨hk.1.1.1.1.1.1.2, ⟨hk.1.1.1.1.1.2, ⟨hk.1.1.1.1.1.1.1.2, ⟨hk.1.1.1.2, ⟨hk.1.1.2, ⟨hk.1.2, ⟨hk.2, hk.1.1.1.1.2⟩⟩⟩⟩⟩⟩⟩⟩)⟩, ⟨by (with_reducible repeat (first | apply Kd.R_alloc | apply Kd.R_drewN | apply Kd.R_drew)); exact Kd.R_mono HO600.out (fun _ hk => ⟨hk.1.1.1.1.1.1.1.1, ⟨hk.1.1.1.1.1.1.2, ⟨hk.1.1.1.1.1.2, ⟨hk.1.1.1.1.1.1.1.2, ⟨hk.1.1.1.2, ⟨hk.1.1.2, ⟨hk.1.2, ⟨hk.2, hk.1.1.1.1.2⟩⟩⟩⟩⟩⟩⟩⟩)⟩, ⟨by (with_reducible repeat (first | apply Kd.R_alloc | apply Kd.R_drewN | apply Kd.R_drew)); exact Kd.R_mono HO608.out (fun _ hk => ⟨hk.1.1.1.1.1.1.1.1, ⟨hk.1.1.1.1.1.1.2, ⟨hk.1.1.1.1.1.2, ⟨hk.1.1.1.1.2, ⟨hk.1.1.1.2, ⟨hk.1.1.1.1.1.1.1.2, ⟨hk.1.2, ⟨hk.2, hk.1.1.2⟩⟩⟩⟩⟩⟩⟩⟩)⟩, ⟨by (with_reducible repeat (first | apply Kd.R_alloc | apply Kd.R_drewN | apply Kd.R_drew)); exact Kd.R_mono HO611.out (fun _ hk => ⟨hk.1.1.1.1.1.1.1.1, ⟨hk.1.1.1.1.1.1.2, ⟨hk.1.1.1.1.1.2, ⟨hk.1.1.1.1.2, ⟨hk.1.1.1.2, ⟨hk.1.1.1.1.1.1.1.2, ⟨hk.1.2, ⟨hk.2, hk.1.1.2⟩⟩⟩⟩⟩⟩⟩⟩)⟩, ⟨by (with_reducible repeat (first | apply Kd.R_alloc | apply Kd.R_drewN | apply Kd.R_drew)); exact Kd.R_mono HO619.out (fun _ hk => ⟨hk.1.1.1.1.1.1.1.1, ⟨hk.1.1.1.1.1.1.2, ⟨hk.1.1.1.1.1.2, ⟨hk.1.1.1.1.2, ⟨hk.1.1.1.2, ⟨hk.1.1.2, ⟨hk.1.2, ⟨hk.1.1.1.1.1.1.1.2, hk.2⟩⟩⟩⟩⟩⟩⟩⟩)⟩, ⟨by (with_reducible repeat (first | apply Kd.R_alloc | apply Kd.R_drewN | apply Kd.R_drew)); exact Kd.R_mono HO622.out (fun _ hk => ⟨hk.1.1.1.1.1.1.1.1, ⟨hk.1.1.1.1.1.1.2, ⟨hk.1.1.1.1.1.2, ⟨hk.1.1.1.1.2, ⟨hk.1.1.1.2, ⟨hk.1.1.2, ⟨hk.1.2, ⟨hk.1.1.1.1.1.1.1.2, hk.2⟩⟩⟩⟩⟩⟩⟩⟩)⟩, ⟨bk_ BK578⟩, ⟨bk_ BK582⟩, ⟨bk_ BK593⟩, ⟨bk_ BK604⟩, ⟨bk_ BK615⟩, ⟨bk_ BK626⟩, ⟨bel_⟩⟩
                  case rest =>
                    clear HC23
                    try clear c1
                    try clear c2
                    try clear p2
                    try clear c3
                    try clear c4
                    try clear c5
                    try clear p5
                    try clear q5
                    try clear hx5
                    try clear c6
                    try clear c7
                    try clear c7b0
                    try clear c7b1
                    try clear c8
                    try clear c9
                    try clear c10
                    try clear c11
                    try clear c12
                    try clear c12b0
                    try clear c13
                    try clear c13b0
                    try clear c14
                    try clear c14b0
                    try clear c15
                    try clear c15b0
                    try clear c15b1
                    try clear c17
                    try clear c19
                    try clear c21
                    try clear c23
                    try clear c25
                    try clear c26
                    try clear c32
                    try clear c33
                    try clear c40
                    try clear c41
                    try clear c42
                    try clear c48
                    try clear c49
                    try clear c50
                    try clear c51
                    try clear c58
                    try clear p58
                    try clear q58
                    try clear hx58
                    try clear c59
                    try clear c60
                    try clear c61
                    try clear c62
                    try clear c67
                    try clear c67b0
                    try clear c67b1
                    try clear c69
                    try clear c69b0
                    try clear c69b1
                    try clear c71
                    try clear c71b0
                    try clear c71b1
                    try clear c73
                    try clear c73b0
                    try clear c73b1
                    try clear c74
                    try clear c75
                    try clear c76
                    try clear c77
                    try clear c78
                    try clear c81
                    try clear c82
                    try clear c83
                    try clear c84
                    try clear c87
                    try clear c88
                    try clear c89
                    try clear c92
                    try clear c93
                    try clear c96
                    try clear c97
                    try clear c98
                    try clear c99
                    try clear c100
                    try clear c103
                    try clear c104
                    try clear c105
                    try clear c106
                    try clear c109
                    try clear c110
                    try clear c111
                    try clear c114
                    try clear c115
                    try clear c118
                    try clear c119
                    try clear c120
                    try clear c121
                    try clear c122
                    try clear c125
                    try clear c126
                    try clear c127
                    try clear c128
                    try clear c131
                    try clear c132
                    try clear c133
                    try clear c136
                    try clear c137
                    try clear c138
                    try clear c139
                    try clear c140
                    try clear c143
                    try clear c144
                    try clear c145
                    try clear c146
                    try clear c149
                    try clear c150
                    try clear c151
                    try clear c152
                    try clear c153
                    try clear hcz101_0
                    try clear hcz101_1
                    try clear hcz101_2
                    try clear hcz101_3
                    try clear hcz101_4
                    try clear hcz107_0
                    try clear hcz107_1
                    try clear hcz107_2
                    try clear hcz107_3
                    try clear hcz107_4
                    try clear hcz10_0
                    try clear hcz10_1
                    try clear hcz10_2
                    try clear hcz10_3
                    try clear hcz10_4
                    try clear hcz112_0
                    try clear hcz112_1
                    try clear hcz112_2
                    try clear hcz112_3
                    try clear hcz112_4
                    try clear hcz116_0
                    try clear hcz116_1
                    try clear hcz116_2
                    try clear hcz116_3
                    try clear hcz116_4
                    try clear hcz123_0
                    try clear hcz123_1
                    try clear hcz123_2
                    try clear hcz123_3
                    try clear hcz123_4
                    try clear hcz129_0
                    try clear hcz129_1
                    try clear hcz129_2
                    try clear hcz129_3
                    try clear hcz129_4
                    try clear hcz134_0
                    try clear hcz134_1
                    try clear hcz134_2
                    try clear hcz134_3
                    try clear hcz134_4
                    try clear hcz141_0
                    try clear hcz141_1
                    try clear hcz141_2
                    try clear hcz141_3
                    try clear hcz141_4
                    try clear hcz147_0
                    try clear hcz147_1
                    try clear hcz147_2
                    try clear hcz147_3
                    try clear hcz147_4
                    try clear hcz154_0
                    try clear hcz154_1
                    try clear hcz154_2
                    try clear hcz154_3
                    try clear hcz154_4
                    try clear hcz18_0
                    try clear hcz18_1
                    try clear hcz26_0
                    try clear hcz26_1
                    try clear hcz27_0
                    try clear hcz27_1
                    try clear hcz27_2
                    try clear hcz27_3
                    try clear hcz27_4
                    try clear hcz34_0
                    try clear hcz34_1
                    try clear hcz34_2
                    try clear hcz34_3
                    try clear hcz34_4
                    try clear hcz37_0
                    try clear hcz37_1
                    try clear hcz43_0
                    try clear hcz43_1
                    try clear hcz43_2
                    try clear hcz43_3
                    try clear hcz43_4
                    try clear hcz52_0
                    try clear hcz52_1
                    try clear hcz52_2
                    try clear hcz52_3
                    try clear hcz52_4
                    try clear hcz55_0
                    try clear hcz55_1
                    try clear hcz55_2
                    try clear hcz55_3
                    try clear hcz55_4
                    try clear hcz63_0
                    try clear hcz63_1
                    try clear hcz63_2
                    try clear hcz63_3
                    try clear hcz63_4
                    try clear hcz79_0
                    try clear hcz79_1
                    try clear hcz79_2
                    try clear hcz79_3
                    try clear hcz79_4
                    try clear hcz85_0
                    try clear hcz85_1
                    try clear hcz85_2
                    try clear hcz85_3
                    try clear hcz85_4
                    try clear hcz90_0
                    try clear hcz90_1
                    try clear hcz90_2
                    try clear hcz90_3
                    try clear hcz90_4
                    try clear hcz94_0
                    try clear hcz94_1
                    try clear hcz94_2
                    try clear hcz94_3
                    try clear hcz94_4
                    try clear hfz101_0
                    try clear hfz101_1
                    try clear hfz101_2
                    try clear hfz101_3
                    try clear hfz101_4
                    try clear hfz107_0
                    try clear hfz107_1
                    try clear hfz107_2
                    try clear hfz107_3
                    try clear hfz107_4
                    try clear hfz10_0
                    try clear hfz10_1
                    try clear hfz10_2
                    try clear hfz10_3
                    try clear hfz10_4
                    try clear hfz112_0
                    try clear hfz112_1
                    try clear hfz112_2
                    try clear hfz112_3
                    try clear hfz112_4
                    try clear hfz116_0
                    try clear hfz116_1
                    try clear hfz116_2
                    try clear hfz116_3
                    try clear hfz116_4
                    try clear hfz123_0
                    try clear hfz123_1
                    try clear hfz123_2
                    try clear hfz123_3
                    try clear hfz123_4
                    try clear hfz129_0
                    try clear hfz129_1
                    try clear hfz129_2
                    try clear hfz129_3
                    try clear hfz129_4
                    try clear hfz134_0
                    try clear hfz134_1
                    try clear hfz134_2
                    try clear hfz134_3
                    try clear hfz134_4
                    try clear hfz141_0
                    try clear hfz141_1
                    try clear hfz141_2
                    try clear hfz141_3
                    try clear hfz141_4
                    try clear hfz147_0
                    try clear hfz147_1
                    try clear hfz147_2
                    try clear hfz147_3
                    try clear hfz147_4
                    try clear hfz154_0
                    try clear hfz154_1
                    try clear hfz154_2
                    try clear hfz154_3
                    try clear hfz154_4
                    try clear hfz18_0
                    try clear hfz18_1
                    try clear hfz26_0
                    try clear hfz26_1
                    try clear hfz27_0
                    try clear hfz27_1
                    try clear hfz27_2
                    try clear hfz27_3
                    try clear hfz27_4
                    try clear hfz34_0
                    try clear hfz34_1
                    try clear hfz34_2
                    try clear hfz34_3
                    try clear hfz34_4
                    try clear hfz37_0
                    try clear hfz37_1
                    try clear hfz43_0
                    try clear hfz43_1
                    try clear hfz43_2
                    try clear hfz43_3
                    try clear hfz43_4
                    try clear hfz52_0
                    try clear hfz52_1
                    try clear hfz52_2
                    try clear hfz52_3
                    try clear hfz52_4
                    try clear hfz55_0
                    try clear hfz55_1
                    try clear hfz55_2
                    try clear hfz55_3
                    try clear hfz55_4
                    try clear hfz63_0
                    try clear hfz63_1
                    try clear hfz63_2
                    try clear hfz63_3
                    try clear hfz63_4
                    try clear hfz79_0
                    try clear hfz79_1
                    try clear hfz79_2
                    try clear hfz79_3
                    try clear hfz79_4
                    try clear hfz85_0
                    try clear hfz85_1
                    try clear hfz85_2
                    try clear hfz85_3
                    try clear hfz85_4
                    try clear hfz90_0
                    try clear hfz90_1
                    try clear hfz90_2
                    try clear hfz90_3
                    try clear hfz90_4
                    try clear hfz94_0
                    try clear hfz94_1
                    try clear hfz94_2
                    try clear hfz94_3
                    try clear hfz94_4
                    try clear hx581_0
                    try clear hx581_1
                    try clear p2
                    try clear p581
                    try clear q581
                    obtain ⟨kq, x81_22, rfl, HA, HJ22, HO_579001, HO_579002, HO_594001, HO_594002, HO_605001, HO_605002, HO_616001, HO_616002, HO_627001, HO_627002, BK578, BK582, BK593, BK604, BK615, BK626, HB⟩ := hcut
                    cases kq with
                    | zero => exact absurd HA.out (by simp [cambiumlaw03_DevRight.j1])
                    | succ kj22 =>
                      have H := HA.out
                      clear HA
                      simp only [cambiumlaw03_DevRight.j1] at H
                      by_cases c156 : x81_22 = true
                      · subst c156
                        have H1 : (some false) = some r := by rw [if_pos rfl] at H; exact H
                        clear H
                        have H := H1
                        clear H1
                        exact absurd ((Option.some.inj H).trans HT_.out) (by simp)
                      · replace c156 := Bool.eq_false_iff.mpr c156
                        subst c156
                        have H1 : (if (Int.tmod x24_1 2) = 1 then (cambiumlaw03_DevRight.l0 kj22 l2 l1 (l1.length : Int) (wrap64 (x24_1 + 1)) t605 t606 t609 t612 t613) else (cambiumlaw03_DevRight.l0 kj22 l2 l1 (l1.length : Int) (wrap64 (x24_1 + 1)) t583 t584 t587 t590 t591)) = some r := by rw [if_neg (show ¬ (false = true) by decide)] at H; exact H
                        clear H
                        have H := H1
                        clear H1
                        by_cases c157 : (Int.tmod x24_1 2) = 1
                        · rw [if_pos c157] at H
                          have c157b0 : ((Int.tmod x24_1 2) == 1) = true := beq_iff_eq.mpr c157
                          have c157b1 : ((Int.tmod x24_1 2) != 1) = false := bne_eq_false_iff_eq.mpr c157
                          clear c157
                          have H' := Aside0.mk H
                          clear H
                          have hnb158 := NB593_578.out
                          have hnc158 := NB578_593.out
                          have hnb159 := NB593_582.out
                          have hnc159 := NB582_593.out
                          have hnb160 := NB593_604.out
                          have hnc160 := NB604_593.out
                          have hnb161 := NB593_615.out
                          have hnc161 := NB615_593.out
                          have hnb162 := NB593_626.out
                          have hnc162 := NB626_593.out
                          obtain ⟨hcz163_0, hcz163_1, hcz163_2, hcz163_3, hcz163_4⟩ := cl5_ BK593
                          obtain ⟨hfz163_0, hfz163_1, hfz163_2, hfz163_3, hfz163_4⟩ := fz5_ BK593
                          have hnb164 := NB578_582.out
                          have hnc164 := NB582_578.out
                          have hnb165 := NB578_604.out
                          have hnc165 := NB604_578.out
                          have hnb166 := NB578_615.out
                          have hnc166 := NB615_578.out
                          have hnb167 := NB578_626.out
                          have hnc167 := NB626_578.out
                          obtain ⟨hcz168_0, hcz168_1, hcz168_2, hcz168_3, hcz168_4⟩ := cl5_ BK578
                          obtain ⟨hfz168_0, hfz168_1, hfz168_2, hfz168_3, hfz168_4⟩ := fz5_ BK578
                          have hnb169 := NB615_582.out
                          have hnc169 := NB582_615.out
                          have hnb170 := NB615_604.out
                          have hnc170 := NB604_615.out
                          have hnb171 := NB615_626.out
                          have hnc171 := NB626_615.out
                          obtain ⟨hcz172_0, hcz172_1, hcz172_2, hcz172_3, hcz172_4⟩ := cl5_ BK615
                          obtain ⟨hfz172_0, hfz172_1, hfz172_2, hfz172_3, hfz172_4⟩ := fz5_ BK615
                          go_wp2
                          go_roundg kj22
                          case measure => have := HK1.out; have := HJ22.out; omega
                          case rel => exact ⟨(wrap64 (x24_1 + 1)), (t605), (t606), (t609), (t612), (t613), (.slice Ao53 t606.length co53), (.slice Ao54 t609.length co54), (by first | rfl | (simp; done) | (simp [*]; done)), H', ⟨by have := HK1.out; have := HJ22.out; omega⟩, ⟨rv_ HO_616001 BK578 (fun k_ hk => ⟨.inr hk.1.1, hk.2⟩)⟩, ⟨rv_ HO_616002 BK578 (fun k_ hk => ⟨.inr hk.1.1, hk.2⟩)⟩, ⟨bs_⟩, ⟨bel_⟩⟩
                        · rw [if_neg c157] at H
                          have c157b0 : ((Int.tmod x24_1 2) == 1) = false := beq_eq_false_iff_ne.mpr c157
                          have c157b1 : ((Int.tmod x24_1 2) != 1) = true := bne_iff_ne.mpr c157
                          have H' := Aside0.mk H
                          clear H
                          have hnb173 := NB593_578.out
                          have hnc173 := NB578_593.out
                          have hnb174 := NB593_582.out
                          have hnc174 := NB582_593.out
                          have hnb175 := NB593_604.out
                          have hnc175 := NB604_593.out
                          have hnb176 := NB593_615.out
                          have hnc176 := NB615_593.out
                          have hnb177 := NB593_626.out
                          have hnc177 := NB626_593.out
                          obtain ⟨hcz178_0, hcz178_1, hcz178_2, hcz178_3, hcz178_4⟩ := cl5_ BK593
                          obtain ⟨hfz178_0, hfz178_1, hfz178_2, hfz178_3, hfz178_4⟩ := fz5_ BK593
                          have hnb179 := NB578_582.out
                          have hnc179 := NB582_578.out
                          have hnb180 := NB578_604.out
                          have hnc180 := NB604_578.out
                          have hnb181 := NB578_615.out
                          have hnc181 := NB615_578.out
                          have hnb182 := NB578_626.out
                          have hnc182 := NB626_578.out
                          obtain ⟨hcz183_0, hcz183_1, hcz183_2, hcz183_3, hcz183_4⟩ := cl5_ BK578
                          obtain ⟨hfz183_0, hfz183_1, hfz183_2, hfz183_3, hfz183_4⟩ := fz5_ BK578
                          go_wp2
                          go_roundg kj22
                          case measure => have := HK1.out; have := HJ22.out; omega
                          case rel => exact ⟨(wrap64 (x24_1 + 1)), (t583), (t584), (t587), (t590), (t591), (.slice Ao35 t584.length co35), (.slice Ao36 t587.length co36), (by first | rfl | (simp; done) | (simp [*]; done)), H', ⟨by have := HK1.out; have := HJ22.out; omega⟩, ⟨rv_ HO_594001 BK578 (fun k_ hk => ⟨.inr hk.1.1, hk.2⟩)⟩, ⟨rv_ HO_594002 BK578 (fun k_ hk => ⟨.inr hk.1.1, hk.2⟩)⟩, ⟨bs_⟩, ⟨bel_⟩⟩
              · rw [if_neg c14] at H
                exact absurd H (by simp)
            · rw [if_neg c13] at H
              exact absurd H (by simp)
          · rw [if_neg c12] at H
            have c12b0 : decide (x24_1 < (l1.length : Int)) = false := decide_eq_false c12
            clear c12
            obtain rfl := Option.some.inj H
            go_wp2
            go_ret
            exact ⟨by first | rfl | (simp [errW_none, errW_some] <;> rfl) | (simp [*, errW_none, errW_some] <;> rfl), bel_⟩
    · rw [if_neg c7] at H
      have c7b0 : (t580 == 0) = false := beq_eq_false_iff_ne.mpr c7
      have c7b1 : (t580 != 0) = true := bne_iff_ne.mpr c7
      obtain rfl := Option.some.inj H
      go_enter Tryd.func10, Tryd.ntmps10
      go_wp2_with (first | ((with_reducible refine gate_dst (N := 3) rfl ?_); refine bx_ (N := 3) (cs := #[.int .u32 a0_0, .slice A0_1 l0_1.length c0_1, .slice A0_2 l0_2.length c0_2, .bool a0_3, .int .i64 a0_4]) (t := 25) ?_; intro gb578 hg w184 hbox hb; have BK578 := Aside0.mk (hbox); have GW578 := ge_ hg; have GE578 := ge_ hg; replace HO0_1 := Aside0.mk (Kd.V_below (Kd.V_elderB (by (with_reducible repeat (first | apply Kd.V_alloc | apply Kd.V_drewN | apply Kd.V_drew)); exact HO0_1.out) gb578 (Nat.le_of_eq hg.symm)) hb); replace HO0_2 := Aside0.mk (Kd.V_below (Kd.V_elderB (by (with_reducible repeat (first | apply Kd.V_alloc | apply Kd.V_drewN | apply Kd.V_drew)); exact HO0_2.out) gb578 (Nat.le_of_eq hg.symm)) hb); replace HB := hb_ hb; clear hb hbox hg) | ((with_reducible refine gate_callee (f := 19) rfl ?_); refine gl_ (some 17) Tryd.func19 #[] ?_; (with_reducible refine (cambiumlaw03_lives.calls k  true _ A4.out).mono ?_); rintro e w185 ⟨rfl, hb⟩; refine ⟨_, rfl, ?_⟩; replace HO0_1 := Aside0.mk (Kd.V_below (by (with_reducible repeat (first | apply Kd.V_alloc | apply Kd.V_drewN | apply Kd.V_drew)); exact HO0_1.out) hb); replace HO0_2 := Aside0.mk (Kd.V_below (by (with_reducible repeat (first | apply Kd.V_alloc | apply Kd.V_drewN | apply Kd.V_drew)); exact HO0_2.out) hb); replace BK578 := kb_ BK578 hb; replace HB := hb_ hb; (try clear hb); (try clear hb2); (try clear hk); (try clear hi); obtain ⟨hcz186_0, hcz186_1, hcz186_2, hcz186_3, hcz186_4⟩ := cl5_ BK578; obtain ⟨hfz186_0, hfz186_1, hfz186_2, hfz186_3, hfz186_4⟩ := fz5_ BK578) | ((with_reducible refine gate_callee (f := 21) rfl ?_); refine gl_ (some 20) Tryd.func21 #[.agg #[.int .u32 a0_0, .slice A0_1 l0_1.length c0_1, .slice A0_2 l0_2.length c0_2, .bool a0_3, .int .i64 a0_4]] ?_; (with_reducible refine (dev_Check.calls k a0_0 _ _ l0_1 _ _ l0_2 a0_3 a0_4 t580 _ ?side1 ?side2 ?side3 ?side4 A6.out).mono ?_); (case side1 => repeat (first | exact (Kd.V_reads' HO0_1.out).2.2 | (with_reducible refine Kd.C_alloc ?_ _) | (with_reducible refine Kd.C_drewN ?_ _) | (with_reducible refine Kd.C_drew ?_))); (case side2 => exact (Kd.V_reads' HO0_1.out).2.1); (case side3 => repeat (first | exact (Kd.V_reads' HO0_2.out).2.2 | (with_reducible refine Kd.C_alloc ?_ _) | (with_reducible refine Kd.C_drewN ?_ _) | (with_reducible refine Kd.C_drew ?_))); (case side4 => exact (Kd.V_reads' HO0_2.out).2.1); rintro e w187 ⟨rfl, hb⟩; refine ⟨_, rfl, ?_⟩; replace HO0_1 := Aside0.mk (Kd.V_below (by (with_reducible repeat (first | apply Kd.V_alloc | apply Kd.V_drewN | apply Kd.V_drew)); exact HO0_1.out) hb); replace HO0_2 := Aside0.mk (Kd.V_below (by (with_reducible repeat (first | apply Kd.V_alloc | apply Kd.V_drewN | apply Kd.V_drew)); exact HO0_2.out) hb); replace BK578 := kb_ BK578 hb; replace HB := hb_ hb; (try clear hb); (try clear hb2); (try clear hk); (try clear hi)))
      go_ret
      exact ⟨by first | rfl | (simp [errW_none, errW_some] <;> rfl) | (simp [*, errW_none, errW_some] <;> rfl), bel_⟩
  · replace c5 := Bool.eq_false_iff.mpr c5
    subst c5
    have H1 : (some false) = some r := by rw [if_neg (show ¬ (false = true) by decide)] at H; exact H
    clear H
    have H := H1
    clear H1
    exact absurd ((Option.some.inj H).trans HT_.out) (by simp)

end Go.Proofs.YtcphflfjhkeooaaDoor.Z
end

section
/- DevRight, over numbers and lists: the law's function answers true. -/
namespace Go.Proofs.YtcphflfjhkeooaaDoor.Pure
open Go.RowKit Go.Proofs.YtcphflfjhkeooaaDoor Go.Proofs.YtcphflfjhkeooaaDoor.Z Go.Proofs.YtcphflfjhkeooaaDoorW.PrintWords
set_option linter.unusedVariables false
theorem DevRight : ∀ (a0_0 : Int) (l0_1 : List (S39)) (l0_2 : List (S39)) (a0_3 : Bool) (a0_4 : Int) (l1 : List (S39)) (l2 : List Bool), (Lit.int .u32 a0_0).wf = true → l0_1.length ≤ maxLen → (∀ x ∈ l0_1, Z.G39 x) → l0_2.length ≤ maxLen → (∀ x ∈ l0_2, Z.G39 x) → (Lit.int .i64 a0_4).wf = true → l1.length ≤ maxLen → (∀ x ∈ l1, Z.G39 x) → l1.length * 24 ≤ 140737488351232 → l2.length ≤ maxLen → (∀ x ∈ l2, (fun _ : Bool => True) x) → l2.length * 1 ≤ 140737488351232 → ∃ k, Z.cambiumlaw03_DevRight.f k a0_0 l0_1 l0_2 a0_3 a0_4 l1 l2 = some true := by
  intro s bl wl d f l ke hs hl1 hg1 hl2 hg2 hf hll hlg hlz hkl hkg hkz
  refine Ev.rounds (g := fun r => Z.cambiumlaw03_DevRight.f r s bl wl d f l ke) ?_
  have hi : Inp s bl wl := inp hg1 hg2 hl1
  have hl0 := num0 hlg
  unfold cambiumlaw03_DevRight.f
  refine Ev.bind lives_f (Ev.ifp rfl ?_)
  have lp : ∀ dd i : Nat, l.length = i + dd → ∀ (s : Int) (bl wl : List Bk) (d : Bool) (f : Int), okDev s bl wl → Ev (fun k => cambiumlaw03_DevRight.l0 k ke l (l.length : Int) (i : Int) s bl wl d f) true := by
    intro dd
    induction dd with
    | zero =>
      intro i hi2 s bl wl d f ok
      refine Ev.step (fun k => by rw [cambiumlaw03_DevRight.l0]) ?_
      exact Ev.ifn (by omega) (Ev.const rfl)
    | succ dd ih =>
      intro i hi2 s bl wl d f ok
      have hlt : i < l.length := by omega
      refine Ev.step (fun k => by rw [cambiumlaw03_DevRight.l0]) ?_
      refine Ev.ifp (by omega) (Ev.ifp (by omega) (Ev.ifp (by omega) (Ev.ite (fun _ => Ev.const rfl) (fun _ => ?_))))
      rw [rd_get l i hlt]
      have hn := hl0 _ (List.getElem_mem hlt)
      have ok1 := okDev_write ok hn d f (l[i]).f1
      have ok2 := okDev_spoil ok1 hn (writeS s bl wl d f (l[i]).f0 (l[i]).f1).2.2.2.1 (writeS s bl wl d f (l[i]).f0 (l[i]).f1).2.2.2.2.1 (l[i]).f1
      refine Ev.bind (write_ok ok d f _ _) (Ev.bind (spoil_ok ok1 _ _ _ _) ?_)
      have ok3 := okDev_flush ok2 (spoilS (writeS s bl wl d f (l[i]).f0 (l[i]).f1).1 (writeS s bl wl d f (l[i]).f0 (l[i]).f1).2.1 (writeS s bl wl d f (l[i]).f0 (l[i]).f1).2.2.1 (writeS s bl wl d f (l[i]).f0 (l[i]).f1).2.2.2.1 (writeS s bl wl d f (l[i]).f0 (l[i]).f1).2.2.2.2.1 (l[i]).f0 (l[i]).f1).2.2.2.1 (spoilS (writeS s bl wl d f (l[i]).f0 (l[i]).f1).1 (writeS s bl wl d f (l[i]).f0 (l[i]).f1).2.1 (writeS s bl wl d f (l[i]).f0 (l[i]).f1).2.2.1 (writeS s bl wl d f (l[i]).f0 (l[i]).f1).2.2.2.1 (writeS s bl wl d f (l[i]).f0 (l[i]).f1).2.2.2.2.1 (l[i]).f0 (l[i]).f1).2.2.2.2.1
      have ok4 := okDev_crash ok2 ke
      refine Ev.bind (flush_ok ok2 _ _) (Ev.bind (crash_ok ok2 _ _ ke) ?_)
      refine Ev.bind (dCheck_ok ok1 _ _) (Ev.ifp rfl (Ev.bind (dCheck_ok ok2 _ _) (Ev.ifp rfl (Ev.bind (dCheck_ok ok3 _ _) (Ev.ifp rfl (Ev.bind (dCheck_ok ok4 _ _) (Ev.ifp rfl ?_)))))))
      refine Ev.step (fun k => by rw [cambiumlaw03_DevRight.j1]) ?_
      refine Ev.ifn (by unfold crashS; simp) ?_
      rw [show wrap64 ((i : Int) + 1) = ((i + 1 : Nat) : Int) by rw [w64 (by omega) (by omega)]; omega]
      exact Ev.ite (fun _ => ih (i + 1) (by omega) _ _ _ _ _ ok3) (fun _ => ih (i + 1) (by omega) _ _ _ _ _ ok1)
  by_cases ok : okDev s bl wl
  · exact Ev.bind (dCheck_ok ok d f) (Ev.ifp rfl (lp l.length 0 (by omega) s bl wl d f ok))
  · exact Ev.bind (dCheck_bad ok d f hi.n1 hi.n2 hi.l1) (Ev.ifn (by decide) (Ev.const rfl))
end Go.Proofs.YtcphflfjhkeooaaDoor.Pure
end

section
/- cambium/cambiumlaw03.DevRight: at every input the law's function returns true, and each argument reads afterwards as before. Conditions: none beyond the row's own. Printed by a program of this session (mp.py) over the pure statement in YtcphflfjhkeooaaDoorPureDevRight. -/
namespace Go.Proofs.YtcphflfjhkeooaaDoor.devRight
open Go.ChangeShapes Go.WideShapes Go.ChangeAt Go.RowKit
open Go.ChangeMaps (open_string shut_string)
set_option linter.unusedVariables false
set_option linter.unusedSimpArgs false
theorem own : ownKnob Tryd.prog.godebug = none := by kernel_rfl
theorem laidOut : laidOutB Tryd.prog = true := by kernel_rfl
theorem lstOf5 {α : Type} (l : List α) (h : l.length = 5) : ∃ z0 z1 z2 z3 z4, l = [z0, z1, z2, z3, z4] := by
  match l, h with
  | [z0, z1, z2, z3, z4], _ => exact ⟨z0, z1, z2, z3, z4, rfl⟩
theorem arrOf5 {α : Type} (a : Array α) (h : a.toList.length = 5) : ∃ z0 z1 z2 z3 z4, a = #[z0, z1, z2, z3, z4] := by
  obtain ⟨l⟩ := a
  obtain ⟨z0, z1, z2, z3, z4, rfl⟩ := lstOf5 l h
  exact ⟨z0, z1, z2, z3, z4, rfl⟩
def lay0 : Obj → Obj
  | .cells _ t frozen => .cells (((Pinned.numbers IntKind.u8 Pinned.utf8FirstZ : List (DataW Unit)).map (fun x => match x with | .lit (.int k v) => Value.int k v | _ => .int .u8 0)).toArray) t frozen
  | o => o
def lay1 : Obj → Obj
  | .cells _ t frozen => .cells #[.int .u8 128, .int .u8 191, .int .u8 160, .int .u8 191, .int .u8 128, .int .u8 159, .int .u8 144, .int .u8 191, .int .u8 128, .int .u8 143, .int .u8 0, .int .u8 0, .int .u8 0, .int .u8 0, .int .u8 0, .int .u8 0, .int .u8 0, .int .u8 0, .int .u8 0, .int .u8 0, .int .u8 0, .int .u8 0, .int .u8 0, .int .u8 0, .int .u8 0, .int .u8 0, .int .u8 0, .int .u8 0, .int .u8 0, .int .u8 0, .int .u8 0, .int .u8 0] t frozen
  | o => o
noncomputable def laidWorld (os : Os) : World :=
  { World.holding Tryd.prog os ⟨#[], #[], []⟩ with heap := ((World.holding Tryd.prog os ⟨#[], #[], []⟩).heap.modify 0 lay0).modify 1 lay1 }
theorem laid_met (os : Os) : laidMet Tryd.prog Rows.devRightRow.laid ((laidWorld os).forCall (fun _ _ => 0) ⟨#[], #[.agg #[.int .u32 0, .slice none 0 0, .slice none 0 0, .bool false, .int .i64 0], .slice none 0 0, .slice none 0 0], []⟩).memory :=
  laidMet_of_run' 8 (by kernel_rfl) (by kernel_rfl)
theorem reads (os : Os) {H : Type} (enc : TypeId × Value → H) : ∃ places, DataW.whole enc Tryd.prog ((laidWorld os).forCall (fun _ _ => 0) ⟨#[], #[.agg #[.int .u32 0, .slice none 0 0, .slice none 0 0, .bool false, .int .i64 0], .slice none 0 0, .slice none 0 0], []⟩).memory Tryd.f10.params.toList Rows.devRightSpec.vars false (#[.agg #[.int .u32 0, .slice none 0 0, .slice none 0 0, .bool false, .int .i64 0], .slice none 0 0, .slice none 0 0] : Array Value).toList 8 = some ([.agg [.lit (.int .u32 0), .nil, .nil, .lit (.bool false), .lit (.int .i64 0)], .nil, .nil], [], places) :=
  ⟨[], by kernel_rfl⟩
set_option maxHeartbeats 1000000 in
set_option maxRecDepth 100000 in
theorem lifted (os : Os) (started : os.Started) (H : Type) (enc : TypeId × Value → H) (F : Stop.Interp) :
    ReturnsInHanded {} Tryd.checked os 10 .any ((OpenSpec.ofChange Rows.devRightSpec).preRow enc Tryd.prog Tryd.f10 Rows.devRightRow.domain false Rows.devRightRow.laid) (((OpenSpec.ofChange Rows.devRightSpec).at F).post enc Tryd.prog Tryd.f10 false true false false) := by
  obtain ⟨places, hx⟩ := reads os enc
  refine returnsInHanded_of_row (C := Tryd.checked) (s := OpenSpec.ofChange Rows.devRightSpec) own started (by kernel_rfl) Tryd.func10
    (witness_row_at (enc := enc) (C := Tryd.checked) false (laidWorld os) #[.agg #[.int .u32 0, .slice none 0 0, .slice none 0 0, .bool false, .int .i64 0], .slice none 0 0, .slice none 0 0] rfl (by kernel_rfl) (by kernel_rfl) (by kernel_rfl)
      (OpenSpec.preRow_of_cond 8 hx (by kernel_rfl) (fun k hk => by cases hk) (by kernel_rfl) (laid_met os))) ?_
  intro W base args ds gs before hval0 hW hcn0_ hcnd hwz_ _ _ _
  have hsz : (DataW.weightsEach Tryd.prog (Tryd.f10.params.toList ++ Rows.devRightSpec.plain.varTypes Tryd.prog) (ds ++ gs)).all (· ≤ reachBytes) = true := hwz_
  have hval : ∀ (j : Nat) t v, Tryd.f10.params[j]? = some t → args[j]? = some v → Value.okWide Tryd.prog W .any base t v := hval0
  have hW' := hW
  obtain ⟨p, q, hA0, hV, rfl, hfz, hnd⟩ := hW
  have hA : DataW.TrodAll enc Tryd.prog W 0 (fun _ => true) true Tryd.f10.params.toList args.toList ds p := hA0
  rw [Tryd.params10] at hA hval hsz
  obtain ⟨v0, vs0, d0, ds0, p0, q0, hargs, rfl, rfl, h0, r0⟩ := trodAll_cons hA
  obtain ⟨v1, vs1, d1, ds1, p1, q1, rfl, rfl, rfl, h1, r1⟩ := trodAll_cons r0
  obtain ⟨v2, vs2, d2, ds2, p2, q2, rfl, rfl, rfl, h2, r2⟩ := trodAll_cons r1
  obtain ⟨rfl, rfl, rfl⟩ := trodAll_nil r2
  obtain rfl : args = #[v0, v1, v2] := by cases args; simp_all
  obtain ⟨rfl, rfl⟩ := trodVars_none hV
  have k0 := h0
  have lt0 : ∀ x ∈ p0, x.block < W.heap.size := by obtain ⟨m, hm⟩ := k0; exact DataW.trod_lt m _ _ _ hm
  obtain ⟨cs0, rfl, hsz_0⟩ := okWide_struct Tryd.underlying25 (hval 0 25 v0 rfl rfl)
  obtain ⟨fuel0, hf0⟩ := h0
  obtain ⟨ys0, n0, hl0, hy0, hx0, hfs0⟩ := Z.flat_fields Tryd.underlying25 (by kernel_rfl) (by kernel_rfl) hf0
  obtain ⟨q0_0, q0_1, q0_2, q0_3, q0_4, rfl⟩ := arrOf5 cs0 hl0
  obtain ⟨r0_0, r0_1, r0_2, r0_3, r0_4, rfl⟩ := lstOf5 ys0 hy0
  obtain ⟨a0_0, hk0_0, hG0_0, hB0_0⟩ := (Z.Opens.int Tryd.underlying22 (by kernel_rfl)).2 (hfs0 0 _ q0_0 rfl rfl)
  have hk0_0' : [q0_0] = [.int .u32 a0_0] := hk0_0
  simp only [List.cons.injEq, and_true] at hk0_0'
  subst hk0_0'
  clear hk0_0
  obtain ⟨A0_1, c0_1, l0_1, hcs0_1, hlc0_1, hcm0_1, hC0_1, hG0_1, hB0_1, hx0_1⟩ := Z.Opens.row Tryd.underlying23 Z.opens39 (of_decide_eq_true (by kernel_rfl)) (hfs0 1 _ q0_1 rfl rfl)
  simp only [List.cons.injEq, and_true] at hcs0_1
  subst hcs0_1
  have hlm0_1 : l0_1.length ≤ maxLen := Nat.le_trans hlc0_1 hcm0_1
  obtain ⟨A0_2, c0_2, l0_2, hcs0_2, hlc0_2, hcm0_2, hC0_2, hG0_2, hB0_2, hx0_2⟩ := Z.Opens.row Tryd.underlying23 Z.opens39 (of_decide_eq_true (by kernel_rfl)) (hfs0 2 _ q0_2 rfl rfl)
  simp only [List.cons.injEq, and_true] at hcs0_2
  subst hcs0_2
  have hlm0_2 : l0_2.length ≤ maxLen := Nat.le_trans hlc0_2 hcm0_2
  obtain ⟨a0_3, hk0_3, hG0_3, hB0_3⟩ := (Z.Opens.bool Tryd.underlying4 (by kernel_rfl)).2 (hfs0 3 _ q0_3 rfl rfl)
  have hk0_3' : [q0_3] = [.bool a0_3] := hk0_3
  simp only [List.cons.injEq, and_true] at hk0_3'
  subst hk0_3'
  clear hk0_3
  obtain ⟨a0_4, hk0_4, hG0_4, hB0_4⟩ := (Z.Opens.int Tryd.underlying3 (by kernel_rfl)).2 (hfs0 4 _ q0_4 rfl rfl)
  have hk0_4' : [q0_4] = [.int .i64 a0_4] := hk0_4
  simp only [List.cons.injEq, and_true] at hk0_4'
  subst hk0_4'
  clear hk0_4
  have k1 := h1
  have lt1 : ∀ x ∈ p1, x.block < W.heap.size := by obtain ⟨m, hm⟩ := k1; exact DataW.trod_lt m _ _ _ hm
  obtain ⟨a1, len1, cap1, rfl⟩ := okWide_slice Tryd.underlying23 (hval 1 23 v1 rfl rfl)
  obtain ⟨fuel1, hf1⟩ := h1
  obtain ⟨A1, c1, l1, hcs1, hlc1, hcm1, hC1, hG1, hB1, hx1⟩ := Z.Opens.row Tryd.underlying23 Z.opens39 (of_decide_eq_true (by kernel_rfl)) hf1
  simp only [Value.cells, List.cons.injEq, Value.slice.injEq, and_true] at hcs1
  obtain ⟨rfl, rfl, rfl⟩ := hcs1
  have hlm1 : l1.length ≤ maxLen := Nat.le_trans hlc1 hcm1
  have hsz1 : l1.length * 24 ≤ 140737488351232 := Z.sized_row hsz (j := 1) (t := 23) rfl rfl Tryd.underlying23 (by kernel_rfl) hx1
  have k2 := h2
  have lt2 : ∀ x ∈ p2, x.block < W.heap.size := by obtain ⟨m, hm⟩ := k2; exact DataW.trod_lt m _ _ _ hm
  obtain ⟨a2, len2, cap2, rfl⟩ := okWide_slice Tryd.underlying37 (hval 2 37 v2 rfl rfl)
  obtain ⟨fuel2, hf2⟩ := h2
  obtain ⟨A2, c2, l2, hcs2, hlc2, hcm2, hC2, hG2, hB2, hx2⟩ := Z.Opens.row Tryd.underlying37 (Z.Opens.bool Tryd.underlying4 (by kernel_rfl)) (of_decide_eq_true (by kernel_rfl)) hf2
  simp only [Value.cells, List.cons.injEq, Value.slice.injEq, and_true] at hcs2
  obtain ⟨rfl, rfl, rfl⟩ := hcs2
  have hlm2 : l2.length ≤ maxLen := Nat.le_trans hlc2 hcm2
  have hsz2 : l2.length * 1 ≤ 140737488351232 := Z.sized_row hsz (j := 2) (t := 37) rfl rfl Tryd.underlying37 (by kernel_rfl) hx2
  have hP := Pure.DevRight a0_0 l0_1 l0_2 a0_3 a0_4 l1 l2 hG0_0 hlm0_1 hG0_1 hlm0_2 hG0_2 hG0_4 hlm1 hG1 hsz1 hlm2 hG2 hsz2
  obtain ⟨k, hk⟩ := hP
  refine (Z.cambiumlaw03_DevRight.calls k a0_0 (fun k_ => k_ < W.heap.size) _ _ l0_1 (fun k_ => k_ < W.heap.size) _ _ l0_2 a0_3 a0_4 _ _ l1 _ _ l2 true W (Go.Proofs.YtcphflfjhkeooaaDoorW.PrintWords.Kd.V_mk hlc0_1 (Go.Proofs.YtcphflfjhkeooaaDoorW.PrintWords.Kd.C_F (show Go.Proofs.YtcphflfjhkeooaaDoorW.PrintWords.Kd.Heap Z.k39 from Go.Proofs.YtcphflfjhkeooaaDoorW.PrintWords.Kd.heap_iso _ (Go.Proofs.YtcphflfjhkeooaaDoorW.PrintWords.Kd.heap_pair (Go.Proofs.YtcphflfjhkeooaaDoorW.PrintWords.Kd.heap_int .u32) Go.Proofs.YtcphflfjhkeooaaDoorW.PrintWords.Kd.heap_string)) hC0_1)) (Go.Proofs.YtcphflfjhkeooaaDoorW.PrintWords.Kd.V_mk hlc0_2 (Go.Proofs.YtcphflfjhkeooaaDoorW.PrintWords.Kd.C_F (show Go.Proofs.YtcphflfjhkeooaaDoorW.PrintWords.Kd.Heap Z.k39 from Go.Proofs.YtcphflfjhkeooaaDoorW.PrintWords.Kd.heap_iso _ (Go.Proofs.YtcphflfjhkeooaaDoorW.PrintWords.Kd.heap_pair (Go.Proofs.YtcphflfjhkeooaaDoorW.PrintWords.Kd.heap_int .u32) Go.Proofs.YtcphflfjhkeooaaDoorW.PrintWords.Kd.heap_string)) hC0_2)) hC1 hlc1 hC2 hlc2 hk).mono fun e W' ⟨he, bel0⟩ => ?_
  have bel : Below W.heap.size W W' := bel0
  subst he
  exact ⟨_, rfl, _, _, _, [], _, [], hW', trodAll_mk1 (shut_bool Tryd.underlying4 _), (trodAll_cons_mk (Below.trod laidOut (by kernel_rfl) (of_decide_eq_true (by kernel_rfl)) k0 bel lt0) (trodAll_cons_mk (Below.trod laidOut (by kernel_rfl) (of_decide_eq_true (by kernel_rfl)) k1 bel lt1) (trodAll_cons_mk (Below.trod laidOut (by kernel_rfl) (of_decide_eq_true (by kernel_rfl)) k2 bel lt2) trodAll_mk0))), rfl, bel.frame _, fun h => by cases h⟩
theorem over : Rows.DevRightSaid :=
  OpenClaim.holds_of_cond 10 Tryd.f10 rfl rfl rfl rfl rfl rfl rfl ⟨rfl, rfl, rfl, rfl, rfl⟩ rfl rfl rfl rfl rfl (by kernel_rfl) Tryd.func10 (by kernel_rfl)
    (of_decide_eq_true (by kernel_rfl)) (by unfold Func.isWrapper; first | (rw [if_pos (by decide +kernel)]; kernel_rfl) | (rw [if_neg (by decide +kernel)]; exact ⟨rfl, rfl⟩))
    (fun os started H enc _ F => by rw [OpenClaim.pre_eq_preRow]; exact lifted os started H enc F)
theorem plain (f : FuncId) (fn : Func) (hf : Tryd.pinned.checked.prog.funcNamed "cambium/cambiumlaw03.DevRight" = some f) (hfn : Tryd.pinned.checked.prog.funcs[f]? = some fn) :
    false = Tryd.pinned.checked.prog.looks [] ∧ ∀ (j : Nat) t, fn.params[j]? = some t → Tryd.pinned.checked.prog.wantsStandIn t = false := by
  obtain rfl : f = 10 := Option.some.inj ((show Tryd.prog.funcNamed "cambium/cambiumlaw03.DevRight" = some 10 by kernel_rfl).symm.trans hf) |>.symm
  obtain rfl : fn = Tryd.f10 := (Option.some.inj (Tryd.func10.symm.trans hfn)).symm
  refine ⟨by kernel_rfl, fun j t ht => ?_⟩
  rw [Tryd.params10] at ht
  have hm := Array.mem_of_getElem? ht
  simp only [List.mem_toArray, List.mem_cons, List.not_mem_nil, or_false] at hm
  rcases hm with rfl | rfl | rfl <;> exact (show Tryd.prog.wantsStandIn _ = false by kernel_rfl)
theorem card : Rows.DevRightCardSaid :=
  Claim7.holds_tied_plain_at .later [] _ _ _ _ over (fun _ h => by cases h) (by kernel_rfl) (fun _ h => by cases h) devRight_row_tie rfl ⟨rfl, rfl⟩ (by kernel_rfl) rfl plain (by kernel_rfl)
end Go.Proofs.YtcphflfjhkeooaaDoor.devRight
namespace Go.Proofs.YtcphflfjhkeooaaDoor
theorem devRight_holds : Rows.DevRightCardSaid := devRight.card
#print axioms devRight_holds
end Go.Proofs.YtcphflfjhkeooaaDoor
end
