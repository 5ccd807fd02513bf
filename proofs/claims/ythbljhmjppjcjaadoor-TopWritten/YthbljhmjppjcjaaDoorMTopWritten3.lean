/- TopWritten: at every input the law's function returns true and leaves its arguments as they were; no condition beyond the row's own. Part 3 of 3: this session's own texts, laid together. -/
import Derived.Test.YthbljhmjppjcjaaDoorMTopWritten1
import Derived.Test.YthbljhmjppjcjaaDoorMTopWritten2
import Derived.Lib.Strings
import Derived.Test.YthbljhmjppjcjaaDoorRows
import Derived.Lib.SmallJoins
import Derived.Deep.Strs
import Derived.SizedLaws
import Derived.ChangeArms
import Derived.Test.YthbljhmjppjcjaaDoorCards
import Derived.Test.YthbljhmjppjcjaaDoorTie
import Derived.Deep.DeepHandedRow
import Derived.WalkKit
import Derived.ProofKit
import Derived.OpenShut
import Derived.ShutString
import Derived.ChangeOld
import Derived.Below
import Derived.Carry
section
-- Printed by a program of this session (mp.py) out of the translation.
namespace Go.Proofs.YthbljhmjppjcjaaDoor.Z
open Go.RowKit Go.Proofs.YthbljhmjppjcjaaDoorW.PrintWords Go.Proofs.YthbljhmjppjcjaaDoorW.PrintLast Go.Proofs.YthbljhmjppjcjaaDoorW.PrintMore
attribute [local go_sem] max2_int min2_int max_two min_two max_three min_three max_four min_four   -- for this text's walks alone
set_option linter.unusedVariables false
set_option linter.unusedSimpArgs false

/-! ### cambiumtop_TopWritten: function 3 -/
mutual
def cambiumtop_TopWritten.j1 : Nat → List (S32) → List Bool → Int → Int → List (S60) → List (S60) → Bool → Int → Option (Bool)
  | 0, _, _, _, _, _, _, _, _ => none
  | k + 1, x0, x2, x8, x154000, x154001, x154002, x154003, x154004 => (dev_Crash.f k x154000 x154001 x154002 x154003 x154004 x2).bind fun bt177 => (cambiumtop_TopWritten.l1 k x0 x2 x8 bt177.2.2.2.2.2 x0 (x0.length : Int) 0 bt177.1 bt177.2.1 bt177.2.2.1 bt177.2.2.2.1 bt177.2.2.2.2.1)
def cambiumtop_TopWritten.l1 : Nat → List (S32) → List Bool → Int → Int → List (S32) → Int → Int → Int → List (S60) → List (S60) → Bool → Int → Option (Bool)
  | 0, _, _, _, _, _, _, _, _, _, _, _, _ => none
  | k + 1, x0, x2, x8, x11, x73, x74, x75, x154000, x154001, x154002, x154003, x154004 => if x75 < x74 then (if 0 ≤ x75 then (if x75 < (x73.length : Int) then (if x75 = 16 then (some (x11 == 0)) else ((dev_Read.f k x154000 x154001 x154002 x154003 x154004 ((x75) % 4294967296)).bind fun bt189 => ((item_Get.f k x0 ((rd_T32 x73 x75).f0)).bind fun bt191 => (if ((rd_T32 x73 x75).f0).size + 1 ≤ 9223372036854775807 then (if (((rd_T32 x73 x75).f0) ++ (⟨#[46]⟩ : ByteArray)).size + bt191.1.size ≤ 9223372036854775807 then (if ((((rd_T32 x73 x75).f0) ++ (⟨#[46]⟩ : ByteArray)) ++ bt191.1).size + 1 ≤ 9223372036854775807 then (if x75 ≥ x8 then (if (wrap64 (x75 - x8)) < (x2.length : Int) then (if 0 ≤ (wrap64 (x75 - x8)) then (if bt189.2 = 0 then (if bt191.2 = 0 then (if x75 < x8 then (if ((bt189.1.toList == (((((rd_T32 x73 x75).f0) ++ (⟨#[46]⟩ : ByteArray)) ++ bt191.1) ++ (⟨#[46]⟩ : ByteArray)).toList) != true) = true then (some false) else (if (bt189.1.toList = (((((rd_T32 x73 x75).f0) ++ (⟨#[46]⟩ : ByteArray)) ++ bt191.1) ++ (⟨#[46]⟩ : ByteArray)).toList) then (cambiumtop_TopWritten.l1 k x0 x2 x8 x11 x73 x74 (wrap64 (x75 + 1)) x154000 x154001 x154002 x154003 x154004) else (if bt189.1.toList = ([] : List UInt8) then (cambiumtop_TopWritten.l1 k x0 x2 x8 x11 x73 x74 (wrap64 (x75 + 1)) x154000 x154001 x154002 x154003 x154004) else (some false)))) else (if ((bt189.1.toList == (((((rd_T32 x73 x75).f0) ++ (⟨#[46]⟩ : ByteArray)) ++ bt191.1) ++ (⟨#[46]⟩ : ByteArray)).toList) != (rdOf false x2 (wrap64 (x75 - x8)))) = true then (some false) else (if (bt189.1.toList = (((((rd_T32 x73 x75).f0) ++ (⟨#[46]⟩ : ByteArray)) ++ bt191.1) ++ (⟨#[46]⟩ : ByteArray)).toList) then (cambiumtop_TopWritten.l1 k x0 x2 x8 x11 x73 x74 (wrap64 (x75 + 1)) x154000 x154001 x154002 x154003 x154004) else (if bt189.1.toList = ([] : List UInt8) then (cambiumtop_TopWritten.l1 k x0 x2 x8 x11 x73 x74 (wrap64 (x75 + 1)) x154000 x154001 x154002 x154003 x154004) else (some false))))) else (some false)) else (some false)) else (none)) else (if bt189.2 = 0 then (if bt191.2 = 0 then (if x75 < x8 then (if ((bt189.1.toList == (((((rd_T32 x73 x75).f0) ++ (⟨#[46]⟩ : ByteArray)) ++ bt191.1) ++ (⟨#[46]⟩ : ByteArray)).toList) != true) = true then (some false) else (if (bt189.1.toList = (((((rd_T32 x73 x75).f0) ++ (⟨#[46]⟩ : ByteArray)) ++ bt191.1) ++ (⟨#[46]⟩ : ByteArray)).toList) then (cambiumtop_TopWritten.l1 k x0 x2 x8 x11 x73 x74 (wrap64 (x75 + 1)) x154000 x154001 x154002 x154003 x154004) else (if bt189.1.toList = ([] : List UInt8) then (cambiumtop_TopWritten.l1 k x0 x2 x8 x11 x73 x74 (wrap64 (x75 + 1)) x154000 x154001 x154002 x154003 x154004) else (some false)))) else (if ((bt189.1.toList == (((((rd_T32 x73 x75).f0) ++ (⟨#[46]⟩ : ByteArray)) ++ bt191.1) ++ (⟨#[46]⟩ : ByteArray)).toList) != false) = true then (some false) else (if (bt189.1.toList = (((((rd_T32 x73 x75).f0) ++ (⟨#[46]⟩ : ByteArray)) ++ bt191.1) ++ (⟨#[46]⟩ : ByteArray)).toList) then (cambiumtop_TopWritten.l1 k x0 x2 x8 x11 x73 x74 (wrap64 (x75 + 1)) x154000 x154001 x154002 x154003 x154004) else (if bt189.1.toList = ([] : List UInt8) then (cambiumtop_TopWritten.l1 k x0 x2 x8 x11 x73 x74 (wrap64 (x75 + 1)) x154000 x154001 x154002 x154003 x154004) else (some false))))) else (some false)) else (some false))) else (if bt189.2 = 0 then (if bt191.2 = 0 then (if x75 < x8 then (if ((bt189.1.toList == (((((rd_T32 x73 x75).f0) ++ (⟨#[46]⟩ : ByteArray)) ++ bt191.1) ++ (⟨#[46]⟩ : ByteArray)).toList) != true) = true then (some false) else (if (bt189.1.toList = (((((rd_T32 x73 x75).f0) ++ (⟨#[46]⟩ : ByteArray)) ++ bt191.1) ++ (⟨#[46]⟩ : ByteArray)).toList) then (cambiumtop_TopWritten.l1 k x0 x2 x8 x11 x73 x74 (wrap64 (x75 + 1)) x154000 x154001 x154002 x154003 x154004) else (if bt189.1.toList = ([] : List UInt8) then (cambiumtop_TopWritten.l1 k x0 x2 x8 x11 x73 x74 (wrap64 (x75 + 1)) x154000 x154001 x154002 x154003 x154004) else (some false)))) else (if ((bt189.1.toList == (((((rd_T32 x73 x75).f0) ++ (⟨#[46]⟩ : ByteArray)) ++ bt191.1) ++ (⟨#[46]⟩ : ByteArray)).toList) != false) = true then (some false) else (if (bt189.1.toList = (((((rd_T32 x73 x75).f0) ++ (⟨#[46]⟩ : ByteArray)) ++ bt191.1) ++ (⟨#[46]⟩ : ByteArray)).toList) then (cambiumtop_TopWritten.l1 k x0 x2 x8 x11 x73 x74 (wrap64 (x75 + 1)) x154000 x154001 x154002 x154003 x154004) else (if bt189.1.toList = ([] : List UInt8) then (cambiumtop_TopWritten.l1 k x0 x2 x8 x11 x73 x74 (wrap64 (x75 + 1)) x154000 x154001 x154002 x154003 x154004) else (some false))))) else (some false)) else (some false))) else (none)) else (none)) else (none))))) else (none)) else (none)) else (some (x11 == 0))
def cambiumtop_TopWritten.l0 : Nat → List (S32) → List Bool → List Bool → Int → List (S32) → Int → Int → Int → List (S60) → List (S60) → Bool → Int → Option (Bool)
  | 0, _, _, _, _, _, _, _, _, _, _, _, _ => none
  | k + 1, x0, x1, x2, x8, x26, x27, x28, x154000, x154001, x154002, x154003, x154004 => if x28 < x27 then (if 0 ≤ x28 then (if x28 < (x26.length : Int) then (if x28 = 16 then (cambiumtop_TopWritten.j1 k x0 x2 x8 x154000 x154001 x154002 x154003 x154004) else (if ((rd_T32 x26 x28).f0).size + 1 ≤ 9223372036854775807 then (if (((rd_T32 x26 x28).f0) ++ (⟨#[46]⟩ : ByteArray)).size + ((rd_T32 x26 x28).f1).size ≤ 9223372036854775807 then (if ((((rd_T32 x26 x28).f0) ++ (⟨#[46]⟩ : ByteArray)) ++ ((rd_T32 x26 x28).f1)).size + 1 ≤ 9223372036854775807 then ((dev_Write.f k x154000 x154001 x154002 x154003 x154004 ((x28) % 4294967296) (((((rd_T32 x26 x28).f0) ++ (⟨#[46]⟩ : ByteArray)) ++ ((rd_T32 x26 x28).f1)) ++ (⟨#[46]⟩ : ByteArray))).bind fun bt156 => (if x28 < (x1.length : Int) then (if rdOf false x1 x28 = true then ((dev_Flush.f k bt156.1 bt156.2.1 bt156.2.2.1 bt156.2.2.2.1 bt156.2.2.2.2.1).bind fun bt167 => (cambiumtop_TopWritten.l0 k x0 x1 x2 (wrap64 (x28 + 1)) x26 x27 (wrap64 (x28 + 1)) bt167.1 bt167.2.1 bt167.2.2.1 bt167.2.2.2.1 bt167.2.2.2.2.1)) else (cambiumtop_TopWritten.l0 k x0 x1 x2 x8 x26 x27 (wrap64 (x28 + 1)) bt156.1 bt156.2.1 bt156.2.2.1 bt156.2.2.2.1 bt156.2.2.2.2.1)) else (cambiumtop_TopWritten.l0 k x0 x1 x2 x8 x26 x27 (wrap64 (x28 + 1)) bt156.1 bt156.2.1 bt156.2.2.1 bt156.2.2.2.1 bt156.2.2.2.2.1))) else (none)) else (none)) else (none))) else (none)) else (none)) else (cambiumtop_TopWritten.j1 k x0 x2 x8 x154000 x154001 x154002 x154003 x154004)
end
def cambiumtop_TopWritten.f (k : Nat) (l0 : List (S32)) (l1 : List Bool) (l2 : List Bool) : Option (Bool) := (cambiumtop_begins.f).bind fun t151 => (if t151 = true then ((item_Check.f k l0).bind fun t152 => (if t152 = 0 then (cambiumtop_TopWritten.l0 k l0 l1 l2 0 l0 (l0.length : Int) 0 16 ([] : List (S60)) ([] : List (S60)) false (-1)) else (some true))) else (some false))
theorem cambiumtop_TopWritten.mono_l : ∀ k, (∀ y0 y1 y2 y3 y4 y5 y6 y7, LeO (cambiumtop_TopWritten.j1 k y0 y1 y2 y3 y4 y5 y6 y7) (cambiumtop_TopWritten.j1 (k + 1) y0 y1 y2 y3 y4 y5 y6 y7)) ∧ (∀ y0 y1 y2 y3 y4 y5 y6 y7 y8 y9 y10 y11, LeO (cambiumtop_TopWritten.l1 k y0 y1 y2 y3 y4 y5 y6 y7 y8 y9 y10 y11) (cambiumtop_TopWritten.l1 (k + 1) y0 y1 y2 y3 y4 y5 y6 y7 y8 y9 y10 y11)) ∧ (∀ y0 y1 y2 y3 y4 y5 y6 y7 y8 y9 y10 y11, LeO (cambiumtop_TopWritten.l0 k y0 y1 y2 y3 y4 y5 y6 y7 y8 y9 y10 y11) (cambiumtop_TopWritten.l0 (k + 1) y0 y1 y2 y3 y4 y5 y6 y7 y8 y9 y10 y11))
  | 0 => ⟨fun _ _ _ _ _ _ _ _ r h => by simp [cambiumtop_TopWritten.j1] at h, fun _ _ _ _ _ _ _ _ _ _ _ _ r h => by simp [cambiumtop_TopWritten.l1] at h, fun _ _ _ _ _ _ _ _ _ _ _ _ r h => by simp [cambiumtop_TopWritten.l0] at h⟩
  | k + 1 => by
    obtain ⟨ih0, ih1, ih2⟩ := cambiumtop_TopWritten.mono_l k
    refine ⟨?_, ?_, ?_⟩
    · intro y0 y1 y2 y3 y4 y5 y6 y7
      unfold cambiumtop_TopWritten.j1
      repeat' first
      | (with_reducible exact ih0 _ _ _ _ _ _ _ _)
      | (with_reducible exact ih1 _ _ _ _ _ _ _ _ _ _ _ _)
      | (with_reducible exact ih2 _ _ _ _ _ _ _ _ _ _ _ _)
      | (with_reducible exact dev_Crash.mono _ _ _ _ _ _ _)
      | (with_reducible exact dev_Flush.mono _ _ _ _ _ _)
      | (with_reducible exact dev_Read.mono _ _ _ _ _ _ _)
      | (with_reducible exact dev_Write.mono _ _ _ _ _ _ _ _)
      | (with_reducible exact item_Check.mono _ _)
      | (with_reducible exact item_Get.mono _ _ _)
      | (with_reducible exact LeO.refl _)
      | (with_reducible exact LeO.none _)
      | (with_reducible refine LeO.ite ?_ ?_)
      | (with_reducible refine LeO.bind ?_ (fun _ => ?_))
      | exact ih0 _ _ _ _ _ _ _ _
      | exact ih1 _ _ _ _ _ _ _ _ _ _ _ _
      | exact ih2 _ _ _ _ _ _ _ _ _ _ _ _
      | exact dev_Crash.mono _ _ _ _ _ _ _
      | exact dev_Flush.mono _ _ _ _ _ _
      | exact dev_Read.mono _ _ _ _ _ _ _
      | exact dev_Write.mono _ _ _ _ _ _ _ _
      | exact item_Check.mono _ _
      | exact item_Get.mono _ _ _
      | exact LeO.none _
      | refine LeO.ite ?_ ?_
      | refine LeO.bind ?_ (fun _ => ?_)
    · intro y0 y1 y2 y3 y4 y5 y6 y7 y8 y9 y10 y11
      unfold cambiumtop_TopWritten.l1
      repeat' first
      | (with_reducible exact ih0 _ _ _ _ _ _ _ _)
      | (with_reducible exact ih1 _ _ _ _ _ _ _ _ _ _ _ _)
      | (with_reducible exact ih2 _ _ _ _ _ _ _ _ _ _ _ _)
      | (with_reducible exact dev_Crash.mono _ _ _ _ _ _ _)
      | (with_reducible exact dev_Flush.mono _ _ _ _ _ _)
      | (with_reducible exact dev_Read.mono _ _ _ _ _ _ _)
      | (with_reducible exact dev_Write.mono _ _ _ _ _ _ _ _)
      | (with_reducible exact item_Check.mono _ _)
      | (with_reducible exact item_Get.mono _ _ _)
      | (with_reducible exact LeO.refl _)
      | (with_reducible exact LeO.none _)
      | (with_reducible refine LeO.ite ?_ ?_)
      | (with_reducible refine LeO.bind ?_ (fun _ => ?_))
      | exact ih0 _ _ _ _ _ _ _ _
      | exact ih1 _ _ _ _ _ _ _ _ _ _ _ _
      | exact ih2 _ _ _ _ _ _ _ _ _ _ _ _
      | exact dev_Crash.mono _ _ _ _ _ _ _
      | exact dev_Flush.mono _ _ _ _ _ _
      | exact dev_Read.mono _ _ _ _ _ _ _
      | exact dev_Write.mono _ _ _ _ _ _ _ _
      | exact item_Check.mono _ _
      | exact item_Get.mono _ _ _
      | exact LeO.none _
      | refine LeO.ite ?_ ?_
      | refine LeO.bind ?_ (fun _ => ?_)
    · intro y0 y1 y2 y3 y4 y5 y6 y7 y8 y9 y10 y11
      unfold cambiumtop_TopWritten.l0
      repeat' first
      | (with_reducible exact ih0 _ _ _ _ _ _ _ _)
      | (with_reducible exact ih1 _ _ _ _ _ _ _ _ _ _ _ _)
      | (with_reducible exact ih2 _ _ _ _ _ _ _ _ _ _ _ _)
      | (with_reducible exact dev_Crash.mono _ _ _ _ _ _ _)
      | (with_reducible exact dev_Flush.mono _ _ _ _ _ _)
      | (with_reducible exact dev_Read.mono _ _ _ _ _ _ _)
      | (with_reducible exact dev_Write.mono _ _ _ _ _ _ _ _)
      | (with_reducible exact item_Check.mono _ _)
      | (with_reducible exact item_Get.mono _ _ _)
      | (with_reducible exact LeO.refl _)
      | (with_reducible exact LeO.none _)
      | (with_reducible refine LeO.ite ?_ ?_)
      | (with_reducible refine LeO.bind ?_ (fun _ => ?_))
      | exact ih0 _ _ _ _ _ _ _ _
      | exact ih1 _ _ _ _ _ _ _ _ _ _ _ _
      | exact ih2 _ _ _ _ _ _ _ _ _ _ _ _
      | exact dev_Crash.mono _ _ _ _ _ _ _
      | exact dev_Flush.mono _ _ _ _ _ _
      | exact dev_Read.mono _ _ _ _ _ _ _
      | exact dev_Write.mono _ _ _ _ _ _ _ _
      | exact item_Check.mono _ _
      | exact item_Get.mono _ _ _
      | exact LeO.none _
      | refine LeO.ite ?_ ?_
      | refine LeO.bind ?_ (fun _ => ?_)
theorem cambiumtop_TopWritten.mono : ∀ a0 a1 a2 k, LeO (cambiumtop_TopWritten.f k a0 a1 a2) (cambiumtop_TopWritten.f (k + 1) a0 a1 a2) := by
  intro a0 a1 a2 k
  obtain ⟨ih0, ih1, ih2⟩ := cambiumtop_TopWritten.mono_l k
  unfold cambiumtop_TopWritten.f
  repeat' first
      | (with_reducible exact ih0 _ _ _ _ _ _ _ _)
      | (with_reducible exact ih1 _ _ _ _ _ _ _ _ _ _ _ _)
      | (with_reducible exact ih2 _ _ _ _ _ _ _ _ _ _ _ _)
      | (with_reducible exact dev_Crash.mono _ _ _ _ _ _ _)
      | (with_reducible exact dev_Flush.mono _ _ _ _ _ _)
      | (with_reducible exact dev_Read.mono _ _ _ _ _ _ _)
      | (with_reducible exact dev_Write.mono _ _ _ _ _ _ _ _)
      | (with_reducible exact item_Check.mono _ _)
      | (with_reducible exact item_Get.mono _ _ _)
      | (with_reducible exact LeO.refl _)
      | (with_reducible exact LeO.none _)
      | (with_reducible refine LeO.ite ?_ ?_)
      | (with_reducible refine LeO.bind ?_ (fun _ => ?_))
      | exact ih0 _ _ _ _ _ _ _ _
      | exact ih1 _ _ _ _ _ _ _ _ _ _ _ _
      | exact ih2 _ _ _ _ _ _ _ _ _ _ _ _
      | exact dev_Crash.mono _ _ _ _ _ _ _
      | exact dev_Flush.mono _ _ _ _ _ _
      | exact dev_Read.mono _ _ _ _ _ _ _
      | exact dev_Write.mono _ _ _ _ _ _ _ _
      | exact item_Check.mono _ _
      | exact item_Get.mono _ _ _
      | exact LeO.none _
      | refine LeO.ite ?_ ?_
      | refine LeO.bind ?_ (fun _ => ?_)
set_option maxHeartbeats 8000000 in
set_option maxRecDepth 100000 in
theorem cambiumtop_TopWritten.calls (k : Nat) (A0 : Option Addr) (c0 : Nat) (l0 : List (S32)) (A1 : Option Addr) (c1 : Nat) (l1 : List Bool) (A2 : Option Addr) (c2 : Nat) (l2 : List Bool) (r : Bool) (w : World) (hr0 : Kd.C k32 w A0 l0.length l0) (hc0 : l0.length ≤ c0) (hr1 : Kd.C Kd.bool w A1 l1.length l1) (hc1 : l1.length ≤ c1) (hr2 : Kd.C Kd.bool w A2 l2.length l2) (hc2 : l2.length ≤ c2) (h : cambiumtop_TopWritten.f k l0 l1 l2 = some r) (hT_ : r = true := by rfl) :
    Calls Tryd.prog 3 #[.slice A0 l0.length c0, .slice A1 l1.length c1, .slice A2 l2.length c2] w fun e w' => e = .returned (.bool r) ∧ Below w.heap.size w w' := by
  have HT_ := Aside0.mk hT_
  clear hT_
  have hu30 := Tryd.underlying30
  have hu32 := Tryd.underlying32
  have HR0 := Aside0.mk hr0
  have HC0 := Aside0.mk hc0
  clear hr0 hc0
  have HR1 := Aside0.mk hr1
  have HC1 := Aside0.mk hc1
  clear hr1 hc1
  have HR2 := Aside0.mk hr2
  have HC2 := Aside0.mk hc2
  clear hr2 hc2
  have HB := Aside0.mk (Below.refl w.heap.size w)
  have H : ((cambiumtop_begins.f).bind fun t151 => (if t151 = true then ((item_Check.f k l0).bind fun t152 => (if t152 = 0 then (cambiumtop_TopWritten.l0 k l0 l1 l2 0 l0 (l0.length : Int) 0 16 ([] : List (S60)) ([] : List (S60)) false (-1)) else (some true))) else (some false))) = some r := h
  clear h
  replace H := Option.bind_eq_some_iff.mp H
  obtain ⟨t151, A40, H⟩ := H
  replace H : (if t151 = true then ((item_Check.f k l0).bind fun t152 => (if t152 = 0 then (cambiumtop_TopWritten.l0 k l0 l1 l2 0 l0 (l0.length : Int) 0 16 ([] : List (S60)) ([] : List (S60)) false (-1)) else (some true))) else (some false)) = some r := H
  have A4 := Aside0.mk A40
  clear A40
  by_cases c5 : t151 = true
  · subst c5
    have H1 : ((item_Check.f k l0).bind fun t152 => (if t152 = 0 then (cambiumtop_TopWritten.l0 k l0 l1 l2 0 l0 (l0.length : Int) 0 16 ([] : List (S60)) ([] : List (S60)) false (-1)) else (some true))) = some r := by rw [if_pos rfl] at H; exact H
    clear H
    have H := H1
    clear H1
    replace H := Option.bind_eq_some_iff.mp H
    obtain ⟨t152, A60, H⟩ := H
    replace H : (if t152 = 0 then (cambiumtop_TopWritten.l0 k l0 l1 l2 0 l0 (l0.length : Int) 0 16 ([] : List (S60)) ([] : List (S60)) false (-1)) else (some true)) = some r := H
    have A6 := Aside0.mk A60
    clear A60
    by_cases c7 : t152 = 0
    · rw [if_pos c7] at H
      have c7b0 : (t152 == 0) = true := beq_iff_eq.mpr c7
      have c7b1 : (t152 != 0) = false := bne_eq_false_iff_eq.mpr c7
      clear c7
      have HC8 := Aside0.mk H
      clear H
      go_enter Tryd.func3, Tryd.ntmps3
      go_upto_block 0 with (first | ((with_reducible refine gate_callee (f := 4) rfl ?_); refine gl_ (some 20) Tryd.func4 #[] ?_; (with_reducible refine (cambiumtop_begins.calls  true _ A4.out).mono ?_); rintro e w9 ⟨rfl, hb⟩; refine ⟨_, rfl, ?_⟩; have n0_ := Aside0.mk (below_step bel_ hb); clear HB; have HB := n0_; clear n0_; (try clear hb); (try clear hb2); (try clear hk); (try clear hi)) | ((with_reducible refine gate_callee (f := 5) rfl ?_); refine gl_ (some 23) Tryd.func5 #[.slice A0 l0.length c0] ?_; (with_reducible refine (item_Check.calls k _ _ l0 t152 _ ?side1 ?side2 A6.out).mono ?_); (case side1 => exact cb_ HR0); (case side2 => exact HC0.out); rintro e w10 ⟨rfl, hb⟩; refine ⟨_, rfl, ?_⟩; have n0_ := Aside0.mk (below_step bel_ hb); clear HB; have HB := n0_; clear n0_; (try clear hb); (try clear hb2); (try clear hk); (try clear hi)) | ((with_reducible refine gate_dst (N := 7) rfl ?_); (try (refine gate_guard (by rfl) ?_; dsimp only)); refine bx_ (N := 7) (cs := #[.int .u32 0, .slice none 0 0, .slice none 0 0, .bool false, .int .i64 0]) (t := 30) ?_; intro gb153 hg w11 hbox hb; have n0_ := Aside0.mk (below_step bel_ hb); have n1_ := Aside0.mk (hbox); have n2_ := Aside0.mk ((by rw [hg]; exact (below_size bel_) : w.heap.size ≤ gb153)); have n3_ := Aside0.mk ((by rw [hg]; exact (below_size bel_) : w.heap.size ≤ gb153)); clear HB; have HB := n0_; have BK153 := n1_; have GW153 := n2_; have GE153 := n3_; clear n0_ n1_ n2_ n3_; clear hb hbox hg; have hcz12_0 : w11.cell? ⟨gb153, 0, none⟩ = some (.int .u32 0) := (blk_cell BK153.out 0).trans rfl; have hcz12_1 : w11.cell? ⟨gb153, 1, none⟩ = some (.slice none 0 0) := (blk_cell BK153.out 1).trans rfl; have hcz12_2 : w11.cell? ⟨gb153, 2, none⟩ = some (.slice none 0 0) := (blk_cell BK153.out 2).trans rfl; have hcz12_3 : w11.cell? ⟨gb153, 3, none⟩ = some (.bool false) := (blk_cell BK153.out 3).trans rfl; have hcz12_4 : w11.cell? ⟨gb153, 4, none⟩ = some (.int .i64 0) := (blk_cell BK153.out 4).trans rfl; have hfz12_0 := blk_frozen BK153.out 0; have hfz12_1 := blk_frozen BK153.out 1; have hfz12_2 := blk_frozen BK153.out 2; have hfz12_3 := blk_frozen BK153.out 3; have hfz12_4 := blk_frozen BK153.out 4))
      (try simp only [Act.put, List.setIfInBounds_toArray, List.set_cons_zero, List.set_cons_succ])
      go_cut [8] (fun v8 wc => ∃ (kq : Nat) (x8_7 : Int) (x154000_7 : Int) (x154001_7 : List (S60)) (x154002_7 : List (S60)) (x154003_7 : Bool) (x154004_7 : Int) (u154001 : Value) (u154002 : Value), v8 = .int .i64 x8_7 ∧ Aside0 (cambiumtop_TopWritten.j1 kq l0 l2 x8_7 x154000_7 x154001_7 x154002_7 x154003_7 x154004_7 = some r) ∧ Aside0 (kq ≤ k) ∧ Aside0 (Kd.R k60 60 wc w.heap.size (fun k_ => some k_ ≠ (u154002 : Value).ownBlock) u154001 x154001_7) ∧ Aside0 (Kd.R k60 60 wc w.heap.size (fun k_ => some k_ ≠ (u154001 : Value).ownBlock) u154002 x154002_7) ∧ Aside0 (wc.heap[gb153]? = some (.cells #[.int .u32 x154000_7, u154001, u154002, .bool x154003_7, .int .i64 x154004_7] 30 (0, 0))) ∧ Aside0 (Below w.heap.size w wc))
      case first =>
        have H := HC8.out
        clear HC8
        have H' := Aside0.mk H
        clear H
        go_wp2
        go_loopg [8, 28] k (fun kq v8 v28 w' => ∃ (x8_1 : Int) (x28_1 : Int) (x154000_1 : Int) (x154001_1 : List (S60)) (x154002_1 : List (S60)) (x154003_1 : Bool) (x154004_1 : Int) (u154001 : Value) (u154002 : Value), v8 = .int .i64 x8_1 ∧ v28 = .int .i64 x28_1 ∧ Aside0 (cambiumtop_TopWritten.l0 kq l0 l1 l2 x8_1 l0 (l0.length : Int) x28_1 x154000_1 x154001_1 x154002_1 x154003_1 x154004_1 = some r) ∧ Aside0 (kq ≤ k) ∧ Aside0 (Kd.R k60 60 w' w.heap.size (fun k_ => some k_ ≠ (u154002 : Value).ownBlock) u154001 x154001_1) ∧ Aside0 (Kd.R k60 60 w' w.heap.size (fun k_ => some k_ ≠ (u154001 : Value).ownBlock) u154002 x154002_1) ∧ Aside0 (w'.heap[gb153]? = some (.cells #[.int .u32 x154000_1, u154001, u154002, .bool x154003_1, .int .i64 x154004_1] 30 (0, 0))) ∧ Aside0 (Below w.heap.size w w'))
        case atStart => exact ⟨(0), (0), (16), (([] : List (S60))), (([] : List (S60))), (false), ((-1)), (.slice none 0 0), (.slice none 0 0), (by first | rfl | (simp; done) | (simp [*]; done)), (by first | rfl | (simp; done) | (simp [*]; done)), H', ⟨Nat.le_refl _⟩, ⟨by first | exact Kd.R_nil _ _ _ _ _ | exact Kd.N_nil _ _ _ _ _ | exact Kd.V_nil _ _ _ _ _ | exact Kd.Q_nil _ _ _ _ _ | exact Kd.S_nil _ _ _ _ _⟩, ⟨by first | exact Kd.R_nil _ _ _ _ _ | exact Kd.N_nil _ _ _ _ _ | exact Kd.V_nil _ _ _ _ _ | exact Kd.Q_nil _ _ _ _ _ | exact Kd.S_nil _ _ _ _ _⟩, ⟨bs_⟩, ⟨bel_⟩⟩
        case round =>
          clear H'
          try clear c1
          try clear c2
          try clear p2
          try clear c3
          try clear c4
          try clear c5
          try clear c7
          try clear c7b0
          try clear c7b1
          try clear hcz12_0
          try clear hcz12_1
          try clear hcz12_2
          try clear hcz12_3
          try clear hcz12_4
          try clear hfz12_0
          try clear hfz12_1
          try clear hfz12_2
          try clear hfz12_3
          try clear hfz12_4
          obtain ⟨x8_1, x28_1, x154000_1, x154001_1, x154002_1, x154003_1, x154004_1, u154001, u154002, rfl, rfl, HA, HK1, HO_154001, HO_154002, BK153, HB⟩ := hrel
          cases gk with
          | zero => exact absurd HA.out (by simp [cambiumtop_TopWritten.l0])
          | succ k1 =>
            have H := HA.out
            clear HA
            simp only [cambiumtop_TopWritten.l0] at H
            by_cases c13 : x28_1 < (l0.length : Int)
            · rw [if_pos c13] at H
              have c13b0 : decide (x28_1 < (l0.length : Int)) = true := decide_eq_true c13
              clear c13
              (first | rw [c13b0] | (simp only [i64_w, i32_w]; rw [c13b0]) | skip)
              by_cases c14 : 0 ≤ x28_1
              · rw [if_pos c14] at H
                have c14b0 : decide (0 ≤ x28_1) = true := decide_eq_true c14
                clear c14
                by_cases c15 : x28_1 < (l0.length : Int)
                · rw [if_pos c15] at H
                  have c15b0 : decide (x28_1 < (l0.length : Int)) = true := decide_eq_true c15
                  clear c15
                  by_cases c16 : x28_1 = 16
                  · rw [if_pos c16] at H
                    have c16b0 : (x28_1 == 16) = true := beq_iff_eq.mpr c16
                    have c16b1 : (x28_1 != 16) = false := bne_eq_false_iff_eq.mpr c16
                    clear c16
                    have H' := Aside0.mk H
                    clear H
                    have p154 : 0 ≤ (x28_1 : Int) := of_decide_eq_true (by first | (with_reducible assumption) | assumption)
                    have q154 : x28_1 < (l0.length : Int) := of_decide_eq_true (by first | (with_reducible assumption) | assumption)
                    obtain ⟨ad154, e154, hx154_0, hx154_1⟩ := at_T32 HR0.out x28_1 p154 q154
                    cases e154
                    replace hx154_0 := (HB.out.cell (World.block_lt_of_cell? w _ hx154_0)).trans hx154_0
                    replace hx154_1 := (HB.out.cell (World.block_lt_of_cell? w _ hx154_1)).trans hx154_1
                    replace p154 := eq_true p154
                    replace q154 := eq_true q154
                    go_wp2_with (first | ((with_reducible refine gate_dst (N := 10) rfl ?_); (try (refine gate_guard (by rfl) ?_; dsimp only)); refine bx_ (N := 10) (cs := #[.string (⟨#[]⟩ : ByteArray), .string (⟨#[]⟩ : ByteArray)]) (t := 32) ?_; intro gb155 hg w17 hbox hb; have BK155 := Aside0.mk (hbox); have GW155 := ge_ hg; have GE155 := ge_ hg; have NB153_155 := nl_ BK153 hg; have NB155_153 := ng_ BK153 hg; replace HO_154001 := rb_ HO_154001 hb; replace HO_154002 := rb_ HO_154002 hb; replace BK153 := kb_ BK153 hb; replace HB := hb_ hb; clear hb hbox hg; have hnb18 := NB155_153.out; have hnc18 := NB153_155.out; obtain ⟨hcz19_0, hcz19_1⟩ := cl2_ BK155; obtain ⟨hfz19_0, hfz19_1⟩ := fz2_ BK155))
                    go_meet
                    case rel => exact ⟨_, (x8_1), (x154000_1), (x154001_1), (x154002_1), (x154003_1), (x154004_1), (u154001), (u154002), (by first | rfl | (simp; done) | (simp [*]; done)), H', ⟨by have := HK1.out; first | omega | exact Nat.le_refl _⟩, ⟨rw_ HO_154001⟩, ⟨rw_ HO_154002⟩, ⟨bs_⟩, ⟨bel_⟩⟩
                  · rw [if_neg c16] at H
                    have c16b0 : (x28_1 == 16) = false := beq_eq_false_iff_ne.mpr c16
                    have c16b1 : (x28_1 != 16) = true := bne_iff_ne.mpr c16
                    by_cases c20 : ((rd_T32 l0 x28_1).f0).size + 1 ≤ 9223372036854775807
                    · rw [if_pos c20] at H
                      have c20b0 := eq_true c20
                      have c20b1 : decide (((rd_T32 l0 x28_1).f0).size + 1 ≤ 9223372036854775807) = true := decide_eq_true c20
                      try have c20b2 : (9223372036854775807 < ((rd_T32 l0 x28_1).f0).size + 1) = False := eq_false (Nat.not_lt.2 c20)
                      by_cases c21 : (((rd_T32 l0 x28_1).f0) ++ (⟨#[46]⟩ : ByteArray)).size + ((rd_T32 l0 x28_1).f1).size ≤ 9223372036854775807
                      · rw [if_pos c21] at H
                        have c21b0 := eq_true c21
                        have c21b1 : decide ((((rd_T32 l0 x28_1).f0) ++ (⟨#[46]⟩ : ByteArray)).size + ((rd_T32 l0 x28_1).f1).size ≤ 9223372036854775807) = true := decide_eq_true c21
                        have c21b1x := c21b1
                        (try simp only [ByteArray.size_append, Int.natCast_add, show (⟨#[46]⟩ : ByteArray).size = 1 from rfl, show ((1 : Nat) : Int) = 1 from rfl] at c21b1x)
                        try have c21b2 : (9223372036854775807 < (((rd_T32 l0 x28_1).f0) ++ (⟨#[46]⟩ : ByteArray)).size + ((rd_T32 l0 x28_1).f1).size) = False := eq_false (Nat.not_lt.2 c21)
                        try have c21b2x := c21b2
                        (try simp only [ByteArray.size_append, Int.natCast_add, show (⟨#[46]⟩ : ByteArray).size = 1 from rfl, show ((1 : Nat) : Int) = 1 from rfl] at c21b2x)
                        by_cases c22 : ((((rd_T32 l0 x28_1).f0) ++ (⟨#[46]⟩ : ByteArray)) ++ ((rd_T32 l0 x28_1).f1)).size + 1 ≤ 9223372036854775807
                        · rw [if_pos c22] at H
                          have c22b0 := eq_true c22
                          have c22b1 : decide (((((rd_T32 l0 x28_1).f0) ++ (⟨#[46]⟩ : ByteArray)) ++ ((rd_T32 l0 x28_1).f1)).size + 1 ≤ 9223372036854775807) = true := decide_eq_true c22
                          have c22b1x := c22b1
                          (try simp only [ByteArray.size_append, Int.natCast_add, show (⟨#[46]⟩ : ByteArray).size = 1 from rfl, show ((1 : Nat) : Int) = 1 from rfl] at c22b1x)
                          try have c22b2 : (9223372036854775807 < ((((rd_T32 l0 x28_1).f0) ++ (⟨#[46]⟩ : ByteArray)) ++ ((rd_T32 l0 x28_1).f1)).size + 1) = False := eq_false (Nat.not_lt.2 c22)
                          try have c22b2x := c22b2
                          (try simp only [ByteArray.size_append, Int.natCast_add, show (⟨#[46]⟩ : ByteArray).size = 1 from rfl, show ((1 : Nat) : Int) = 1 from rfl] at c22b2x)
                          replace H := Option.bind_eq_some_iff.mp H
                          obtain ⟨⟨t156, t157, t160, t163, t164, t165⟩, A230, H⟩ := H
                          replace H : (if x28_1 < (l1.length : Int) then (if rdOf false l1 x28_1 = true then ((dev_Flush.f k1 t156 t157 t160 t163 t164).bind fun bt167 => (cambiumtop_TopWritten.l0 k1 l0 l1 l2 (wrap64 (x28_1 + 1)) l0 (l0.length : Int) (wrap64 (x28_1 + 1)) bt167.1 bt167.2.1 bt167.2.2.1 bt167.2.2.2.1 bt167.2.2.2.2.1)) else (cambiumtop_TopWritten.l0 k1 l0 l1 l2 x8_1 l0 (l0.length : Int) (wrap64 (x28_1 + 1)) t156 t157 t160 t163 t164)) else (cambiumtop_TopWritten.l0 k1 l0 l1 l2 x8_1 l0 (l0.length : Int) (wrap64 (x28_1 + 1)) t156 t157 t160 t163 t164)) = some r := H
                          have A23 := Aside0.mk A230
                          clear A230
                          by_cases c24 : x28_1 < (l1.length : Int)
                          · rw [if_pos c24] at H
                            have c24b0 : decide (x28_1 < (l1.length : Int)) = true := decide_eq_true c24
                            clear c24
                            obtain ⟨bq25, hbq25⟩ : ∃ b_ : Bool, b_ = (rdOf false l1 x28_1) := ⟨_, rfl⟩
                            replace H : (if bq25 = true then ((dev_Flush.f k1 t156 t157 t160 t163 t164).bind fun bt167 => (cambiumtop_TopWritten.l0 k1 l0 l1 l2 (wrap64 (x28_1 + 1)) l0 (l0.length : Int) (wrap64 (x28_1 + 1)) bt167.1 bt167.2.1 bt167.2.2.1 bt167.2.2.2.1 bt167.2.2.2.2.1)) else (cambiumtop_TopWritten.l0 k1 l0 l1 l2 x8_1 l0 (l0.length : Int) (wrap64 (x28_1 + 1)) t156 t157 t160 t163 t164)) = some r := by rw [← hbq25] at H; exact H
                            have Nbq25 := Aside0.mk hbq25
                            clear hbq25
                            by_cases c26 : bq25 = true
                            · subst c26
                              have H1 : ((dev_Flush.f k1 t156 t157 t160 t163 t164).bind fun bt167 => (cambiumtop_TopWritten.l0 k1 l0 l1 l2 (wrap64 (x28_1 + 1)) l0 (l0.length : Int) (wrap64 (x28_1 + 1)) bt167.1 bt167.2.1 bt167.2.2.1 bt167.2.2.2.1 bt167.2.2.2.2.1)) = some r := by rw [if_pos rfl] at H; exact H
                              clear H
                              have H := H1
                              clear H1
                              replace H := Option.bind_eq_some_iff.mp H
                              obtain ⟨⟨t167, t168, t171, t174, t175, t176⟩, A270, H⟩ := H
                              replace H : (cambiumtop_TopWritten.l0 k1 l0 l1 l2 (wrap64 (x28_1 + 1)) l0 (l0.length : Int) (wrap64 (x28_1 + 1)) t167 t168 t171 t174 t175) = some r := H
                              have A27 := Aside0.mk A270
                              clear A270
                              have H' := Aside0.mk H
                              clear H
                              have p154 : 0 ≤ (x28_1 : Int) := of_decide_eq_true (by first | (with_reducible assumption) | assumption)
                              have q154 : x28_1 < (l0.length : Int) := of_decide_eq_true (by first | (with_reducible assumption) | assumption)
                              obtain ⟨ad154, e154, hx154_0, hx154_1⟩ := at_T32 HR0.out x28_1 p154 q154
                              cases e154
                              replace hx154_0 := (HB.out.cell (World.block_lt_of_cell? w _ hx154_0)).trans hx154_0
                              replace hx154_1 := (HB.out.cell (World.block_lt_of_cell? w _ hx154_1)).trans hx154_1
                              replace p154 := eq_true p154
                              replace q154 := eq_true q154
                              go_wp2_with (first | ((with_reducible refine gate_dst (N := 10) rfl ?_); (try (refine gate_guard (by rfl) ?_; dsimp only)); refine bx_ (N := 10) (cs := #[.string (⟨#[]⟩ : ByteArray), .string (⟨#[]⟩ : ByteArray)]) (t := 32) ?_; intro gb155 hg w28 hbox hb; have BK155 := Aside0.mk (hbox); have GW155 := ge_ hg; have GE155 := ge_ hg; have NB153_155 := nl_ BK153 hg; have NB155_153 := ng_ BK153 hg; replace HO_154001 := rb_ HO_154001 hb; replace HO_154002 := rb_ HO_154002 hb; replace BK153 := kb_ BK153 hb; replace HB := hb_ hb; clear hb hbox hg; have hnb29 := NB155_153.out; have hnc29 := NB153_155.out; obtain ⟨hcz30_0, hcz30_1⟩ := cl2_ BK155; obtain ⟨hfz30_0, hfz30_1⟩ := fz2_ BK155; obtain ⟨hcz31_0, hcz31_1, hcz31_2, hcz31_3, hcz31_4⟩ := cl5_ BK153; obtain ⟨hfz31_0, hfz31_1, hfz31_2, hfz31_3, hfz31_4⟩ := fz5_ BK153; obtain ⟨Ao32, co32, eo32⟩ := Kd.R_slice HO_154001.out; subst eo32; obtain ⟨Ao33, co33, eo33⟩ := Kd.R_slice HO_154002.out; subst eo33) | ((with_reducible refine gate_callee (f := 6) rfl ?_); refine gl_ (some 46) Tryd.func6 #[.agg #[.int .u32 x154000_1, .slice Ao32 x154001_1.length co32, .slice Ao33 x154002_1.length co33, .bool x154003_1, .int .i64 x154004_1], .int .u32 ((x28_1) % 4294967296), .string (((((rd_T32 l0 x28_1).f0) ++ (⟨#[46]⟩ : ByteArray)) ++ ((rd_T32 l0 x28_1).f1)) ++ (⟨#[46]⟩ : ByteArray))] ?_; (with_reducible refine (dev_Write.calls k1 x154000_1 _ _ x154001_1 _ _ x154002_1 x154003_1 x154004_1 ((x28_1) % 4294967296) (((((rd_T32 l0 x28_1).f0) ++ (⟨#[46]⟩ : ByteArray)) ++ ((rd_T32 l0 x28_1).f1)) ++ (⟨#[46]⟩ : ByteArray)) t156 t157 t160 t163 t164 t165 _ ?side1 ?side2 ?side3 ?side4 A23.out).mono ?_); (case side1 => exact (Kd.R_reads' (rw_ HO_154001)).2.2); (case side2 => exact (Kd.R_reads' HO_154001.out).2.1); (case side3 => exact (Kd.R_reads' (rw_ HO_154002)).2.2); (case side4 => exact (Kd.R_reads' HO_154002.out).2.1); rintro e w34 ⟨v158, v161, rfl, ho0, ho1, hb⟩; refine ⟨_, rfl, ?_⟩; have HO159 := Aside0.mk (Kd.R_lower (Kd.R_new' (Kd.R_new' ho0 (Kd.R_lt (rw_ HO_154001))) (Kd.R_lt (rw_ HO_154002))) (below_size bel_)); have HO162 := Aside0.mk (Kd.R_lower (Kd.R_new' (Kd.R_new' ho1 (Kd.R_lt (rw_ HO_154001))) (Kd.R_lt (rw_ HO_154002))) (below_size bel_)); replace HO_154001 := Aside0.mk (Kd.R_mono (Kd.R_told (Kd.R_told (Kd.R_old (rw_ HO_154001) hb) (Kd.R_base ho0)) (Kd.R_base ho1)) (fun _ h_ => h_.1)); replace HO_154002 := Aside0.mk (Kd.R_mono (Kd.R_told (Kd.R_told (Kd.R_old (rw_ HO_154002) hb) (Kd.R_base ho0)) (Kd.R_base ho1)) (fun _ h_ => h_.1)); replace BK153 := Aside0.mk (blk_below (g := gb153) (o := .cells #[.int .u32 x154000_1, .slice Ao32 x154001_1.length co32, .slice Ao33 x154002_1.length co33, .bool x154003_1, .int .i64 x154004_1] 30 (0, 0)) (bs_) hb); replace HB := hb_ hb; replace BK155 := Aside0.mk (blk_below (g := gb155) (o := .cells #[.string ((rd_T32 l0 x28_1).f0), .string ((rd_T32 l0 x28_1).f1)] 32 (0, 0)) (bs_) hb); (try clear hb); (try clear hb2); (try clear hk); (try clear hi); (try clear ho0); (try clear ho1); obtain ⟨hcz35_0, hcz35_1, hcz35_2, hcz35_3, hcz35_4⟩ := cl5_ BK153; obtain ⟨hfz35_0, hfz35_1, hfz35_2, hfz35_3, hfz35_4⟩ := fz5_ BK153; obtain ⟨Ao36, co36, eo36⟩ := Kd.R_slice HO159.out; subst eo36; obtain ⟨Ao37, co37, eo37⟩ := Kd.R_slice HO162.out; subst eo37; have p166 : 0 ≤ (x28_1 : Int) := of_decide_eq_true (by first | (with_reducible assumption) | assumption); have q166 : x28_1 < (l1.length : Int) := of_decide_eq_true (by first | (with_reducible assumption) | assumption); obtain ⟨ad166, e166, hx166_0⟩ := Kd.at_bool HR1.out x28_1 p166 q166; (try rw [← Nbq25.out] at hx166_0); cases e166; have hn166_0 : ad166.block ≠ gb153 := Nat.ne_of_lt (Nat.lt_of_lt_of_le (by have := World.block_lt_of_cell? _ _ hx166_0; first | rwa [add_block] at this | exact this) GW153.out); have hn166_1 : ad166.block ≠ gb153 := Nat.ne_of_lt (Nat.lt_of_lt_of_le (by have := World.block_lt_of_cell? _ _ hx166_0; first | rwa [add_block] at this | exact this) GW153.out); have hn166_2 : ad166.block ≠ gb153 := Nat.ne_of_lt (Nat.lt_of_lt_of_le (by have := World.block_lt_of_cell? _ _ hx166_0; first | rwa [add_block] at this | exact this) GW153.out); have hn166_3 : ad166.block ≠ gb153 := Nat.ne_of_lt (Nat.lt_of_lt_of_le (by have := World.block_lt_of_cell? _ _ hx166_0; first | rwa [add_block] at this | exact this) GW153.out); have hn166_4 : ad166.block ≠ gb153 := Nat.ne_of_lt (Nat.lt_of_lt_of_le (by have := World.block_lt_of_cell? _ _ hx166_0; first | rwa [add_block] at this | exact this) GW153.out); replace hx166_0 := (HB.out.cell (World.block_lt_of_cell? w _ hx166_0)).trans hx166_0; replace hx166_0 := (cell_far (p := ⟨gb153, 0, none⟩) (by first | (rw [add_block]; exact hn166_0) | (show (Addr.add _ _).block ≠ _; rw [add_block]; exact hn166_0) | exact hn166_0) (.int .u32 t156)).trans hx166_0; replace hx166_0 := (cell_far (p := ⟨gb153, 1, none⟩) (by first | (rw [add_block]; exact hn166_1) | (show (Addr.add _ _).block ≠ _; rw [add_block]; exact hn166_1) | exact hn166_1) (.slice Ao36 t157.length co36)).trans hx166_0; replace hx166_0 := (cell_far (p := ⟨gb153, 2, none⟩) (by first | (rw [add_block]; exact hn166_2) | (show (Addr.add _ _).block ≠ _; rw [add_block]; exact hn166_2) | exact hn166_2) (.slice Ao37 t160.length co37)).trans hx166_0; replace hx166_0 := (cell_far (p := ⟨gb153, 3, none⟩) (by first | (rw [add_block]; exact hn166_3) | (show (Addr.add _ _).block ≠ _; rw [add_block]; exact hn166_3) | exact hn166_3) (.bool t163)).trans hx166_0; replace hx166_0 := (cell_far (p := ⟨gb153, 4, none⟩) (by first | (rw [add_block]; exact hn166_4) | (show (Addr.add _ _).block ≠ _; rw [add_block]; exact hn166_4) | exact hn166_4) (.int .i64 t164)).trans hx166_0; clear hn166_0; clear hn166_1; clear hn166_2; clear hn166_3; clear hn166_4; replace p166 := eq_true p166; replace q166 := eq_true q166) | ((with_reducible refine gate_callee (f := 7) rfl ?_); refine gl_ (some 61) Tryd.func7 #[.agg #[.int .u32 t156, .slice Ao36 t157.length co36, .slice Ao37 t160.length co37, .bool t163, .int .i64 t164]] ?_; (with_reducible refine (dev_Flush.calls k1 t156 _ _ t157 _ _ t160 t163 t164 t167 t168 t171 t174 t175 t176 _ ?side1 ?side2 ?side3 ?side4 A27.out).mono ?_); (case side1 => exact (Kd.R_reads' (rw_ HO159)).2.2); (case side2 => exact (Kd.R_reads' HO159.out).2.1); (case side3 => exact (Kd.R_reads' (rw_ HO162)).2.2); (case side4 => exact (Kd.R_reads' HO162.out).2.1); rintro e w38 ⟨v169, v172, rfl, ho0, ho1, hb⟩; refine ⟨_, rfl, ?_⟩; have HO170 := Aside0.mk (Kd.R_lower (Kd.R_new' (Kd.R_new' (Kd.R_new' (Kd.R_new' ho0 (Kd.R_lt (rw_ HO_154001))) (Kd.R_lt (rw_ HO_154002))) (Kd.R_lt (rw_ HO159))) (Kd.R_lt (rw_ HO162))) (below_size bel_)); have HO173 := Aside0.mk (Kd.R_lower (Kd.R_new' (Kd.R_new' (Kd.R_new' (Kd.R_new' ho1 (Kd.R_lt (rw_ HO_154001))) (Kd.R_lt (rw_ HO_154002))) (Kd.R_lt (rw_ HO159))) (Kd.R_lt (rw_ HO162))) (below_size bel_)); replace HO_154001 := Aside0.mk (Kd.R_mono (Kd.R_told (Kd.R_told (Kd.R_old (rw_ HO_154001) hb) (Kd.R_base ho0)) (Kd.R_base ho1)) (fun _ h_ => h_.1)); replace HO_154002 := Aside0.mk (Kd.R_mono (Kd.R_told (Kd.R_told (Kd.R_old (rw_ HO_154002) hb) (Kd.R_base ho0)) (Kd.R_base ho1)) (fun _ h_ => h_.1)); replace HO159 := Aside0.mk (Kd.R_mono (Kd.R_told (Kd.R_told (Kd.R_old (rw_ HO159) hb) (Kd.R_base ho0)) (Kd.R_base ho1)) (fun _ h_ => h_.1)); replace HO162 := Aside0.mk (Kd.R_mono (Kd.R_told (Kd.R_told (Kd.R_old (rw_ HO162) hb) (Kd.R_base ho0)) (Kd.R_base ho1)) (fun _ h_ => h_.1)); replace BK155 := Aside0.mk (blk_below (g := gb155) (o := .cells #[.string ((rd_T32 l0 x28_1).f0), .string ((rd_T32 l0 x28_1).f1)] 32 (0, 0)) (bs_) hb); replace HB := hb_ hb; replace BK153 := Aside0.mk (blk_below (g := gb153) (o := .cells #[.int .u32 t156, .slice Ao36 t157.length co36, .slice Ao37 t160.length co37, .bool t163, .int .i64 t164] 30 (0, 0)) (bs_) hb); (try clear hb); (try clear hb2); (try clear hk); (try clear hi); (try clear ho0); (try clear ho1); obtain ⟨hcz39_0, hcz39_1, hcz39_2, hcz39_3, hcz39_4⟩ := cl5_ BK153; obtain ⟨hfz39_0, hfz39_1, hfz39_2, hfz39_3, hfz39_4⟩ := fz5_ BK153; obtain ⟨Ao40, co40, eo40⟩ := Kd.R_slice HO170.out; subst eo40; obtain ⟨Ao41, co41, eo41⟩ := Kd.R_slice HO173.out; subst eo41))
                              go_roundg k1
                              case measure => have := HK1.out; omega
                              case rel => exact ⟨(wrap64 (x28_1 + 1)), (wrap64 (x28_1 + 1)), (t167), (t168), (t171), (t174), (t175), (.slice Ao40 t168.length co40), (.slice Ao41 t171.length co41), (by first | rfl | (simp; done) | (simp [*]; done)), (by first | rfl | (simp; done) | (simp [*]; done)), H', ⟨by have := HK1.out; omega⟩, ⟨rm_ HO170 (fun _ h => h.1.1.1.1)⟩, ⟨rm_ HO173 (fun _ h => h.1.1.1.1)⟩, ⟨bs_⟩, ⟨bel_⟩⟩
                            · replace c26 := Bool.eq_false_iff.mpr c26
                              subst c26
                              have H1 : (cambiumtop_TopWritten.l0 k1 l0 l1 l2 x8_1 l0 (l0.length : Int) (wrap64 (x28_1 + 1)) t156 t157 t160 t163 t164) = some r := by rw [if_neg (show ¬ (false = true) by decide)] at H; exact H
                              clear H
                              have H := H1
                              clear H1
                              have H' := Aside0.mk H
                              clear H
                              have p154 : 0 ≤ (x28_1 : Int) := of_decide_eq_true (by first | (with_reducible assumption) | assumption)
                              have q154 : x28_1 < (l0.length : Int) := of_decide_eq_true (by first | (with_reducible assumption) | assumption)
                              obtain ⟨ad154, e154, hx154_0, hx154_1⟩ := at_T32 HR0.out x28_1 p154 q154
                              cases e154
                              replace hx154_0 := (HB.out.cell (World.block_lt_of_cell? w _ hx154_0)).trans hx154_0
                              replace hx154_1 := (HB.out.cell (World.block_lt_of_cell? w _ hx154_1)).trans hx154_1
                              replace p154 := eq_true p154
                              replace q154 := eq_true q154
                              go_wp2_with (first | ((with_reducible refine gate_dst (N := 10) rfl ?_); (try (refine gate_guard (by rfl) ?_; dsimp only)); refine bx_ (N := 10) (cs := #[.string (⟨#[]⟩ : ByteArray), .string (⟨#[]⟩ : ByteArray)]) (t := 32) ?_; intro gb155 hg w42 hbox hb; have BK155 := Aside0.mk (hbox); have GW155 := ge_ hg; have GE155 := ge_ hg; have NB153_155 := nl_ BK153 hg; have NB155_153 := ng_ BK153 hg; replace HO_154001 := rb_ HO_154001 hb; replace HO_154002 := rb_ HO_154002 hb; replace BK153 := kb_ BK153 hb; replace HB := hb_ hb; clear hb hbox hg; have hnb43 := NB155_153.out; have hnc43 := NB153_155.out; obtain ⟨hcz44_0, hcz44_1⟩ := cl2_ BK155; obtain ⟨hfz44_0, hfz44_1⟩ := fz2_ BK155; obtain ⟨hcz45_0, hcz45_1, hcz45_2, hcz45_3, hcz45_4⟩ := cl5_ BK153; obtain ⟨hfz45_0, hfz45_1, hfz45_2, hfz45_3, hfz45_4⟩ := fz5_ BK153; obtain ⟨Ao46, co46, eo46⟩ := Kd.R_slice HO_154001.out; subst eo46; obtain ⟨Ao47, co47, eo47⟩ := Kd.R_slice HO_154002.out; subst eo47) | ((with_reducible refine gate_callee (f := 6) rfl ?_); refine gl_ (some 46) Tryd.func6 #[.agg #[.int .u32 x154000_1, .slice Ao46 x154001_1.length co46, .slice Ao47 x154002_1.length co47, .bool x154003_1, .int .i64 x154004_1], .int .u32 ((x28_1) % 4294967296), .string (((((rd_T32 l0 x28_1).f0) ++ (⟨#[46]⟩ : ByteArray)) ++ ((rd_T32 l0 x28_1).f1)) ++ (⟨#[46]⟩ : ByteArray))] ?_; (with_reducible refine (dev_Write.calls k1 x154000_1 _ _ x154001_1 _ _ x154002_1 x154003_1 x154004_1 ((x28_1) % 4294967296) (((((rd_T32 l0 x28_1).f0) ++ (⟨#[46]⟩ : ByteArray)) ++ ((rd_T32 l0 x28_1).f1)) ++ (⟨#[46]⟩ : ByteArray)) t156 t157 t160 t163 t164 t165 _ ?side1 ?side2 ?side3 ?side4 A23.out).mono ?_); (case side1 => exact (Kd.R_reads' (rw_ HO_154001)).2.2); (case side2 => exact (Kd.R_reads' HO_154001.out).2.1); (case side3 => exact (Kd.R_reads' (rw_ HO_154002)).2.2); (case side4 => exact (Kd.R_reads' HO_154002.out).2.1); rintro e w48 ⟨v158, v161, rfl, ho0, ho1, hb⟩; refine ⟨_, rfl, ?_⟩; have HO159 := Aside0.mk (Kd.R_lower (Kd.R_new' (Kd.R_new' ho0 (Kd.R_lt (rw_ HO_154001))) (Kd.R_lt (rw_ HO_154002))) (below_size bel_)); have HO162 := Aside0.mk (Kd.R_lower (Kd.R_new' (Kd.R_new' ho1 (Kd.R_lt (rw_ HO_154001))) (Kd.R_lt (rw_ HO_154002))) (below_size bel_)); replace HO_154001 := Aside0.mk (Kd.R_mono (Kd.R_told (Kd.R_told (Kd.R_old (rw_ HO_154001) hb) (Kd.R_base ho0)) (Kd.R_base ho1)) (fun _ h_ => h_.1)); replace HO_154002 := Aside0.mk (Kd.R_mono (Kd.R_told (Kd.R_told (Kd.R_old (rw_ HO_154002) hb) (Kd.R_base ho0)) (Kd.R_base ho1)) (fun _ h_ => h_.1)); replace BK153 := Aside0.mk (blk_below (g := gb153) (o := .cells #[.int .u32 x154000_1, .slice Ao46 x154001_1.length co46, .slice Ao47 x154002_1.length co47, .bool x154003_1, .int .i64 x154004_1] 30 (0, 0)) (bs_) hb); replace HB := hb_ hb; replace BK155 := Aside0.mk (blk_below (g := gb155) (o := .cells #[.string ((rd_T32 l0 x28_1).f0), .string ((rd_T32 l0 x28_1).f1)] 32 (0, 0)) (bs_) hb); (try clear hb); (try clear hb2); (try clear hk); (try clear hi); (try clear ho0); (try clear ho1); obtain ⟨hcz49_0, hcz49_1, hcz49_2, hcz49_3, hcz49_4⟩ := cl5_ BK153; obtain ⟨hfz49_0, hfz49_1, hfz49_2, hfz49_3, hfz49_4⟩ := fz5_ BK153; obtain ⟨Ao50, co50, eo50⟩ := Kd.R_slice HO159.out; subst eo50; obtain ⟨Ao51, co51, eo51⟩ := Kd.R_slice HO162.out; subst eo51; have p166 : 0 ≤ (x28_1 : Int) := of_decide_eq_true (by first | (with_reducible assumption) | assumption); have q166 : x28_1 < (l1.length : Int) := of_decide_eq_true (by first | (with_reducible assumption) | assumption); obtain ⟨ad166, e166, hx166_0⟩ := Kd.at_bool HR1.out x28_1 p166 q166; (try rw [← Nbq25.out] at hx166_0); cases e166; have hn166_0 : ad166.block ≠ gb153 := Nat.ne_of_lt (Nat.lt_of_lt_of_le (by have := World.block_lt_of_cell? _ _ hx166_0; first | rwa [add_block] at this | exact this) GW153.out); have hn166_1 : ad166.block ≠ gb153 := Nat.ne_of_lt (Nat.lt_of_lt_of_le (by have := World.block_lt_of_cell? _ _ hx166_0; first | rwa [add_block] at this | exact this) GW153.out); have hn166_2 : ad166.block ≠ gb153 := Nat.ne_of_lt (Nat.lt_of_lt_of_le (by have := World.block_lt_of_cell? _ _ hx166_0; first | rwa [add_block] at this | exact this) GW153.out); have hn166_3 : ad166.block ≠ gb153 := Nat.ne_of_lt (Nat.lt_of_lt_of_le (by have := World.block_lt_of_cell? _ _ hx166_0; first | rwa [add_block] at this | exact this) GW153.out); have hn166_4 : ad166.block ≠ gb153 := Nat.ne_of_lt (Nat.lt_of_lt_of_le (by have := World.block_lt_of_cell? _ _ hx166_0; first | rwa [add_block] at this | exact this) GW153.out); replace hx166_0 := (HB.out.cell (World.block_lt_of_cell? w _ hx166_0)).trans hx166_0; replace hx166_0 := (cell_far (p := ⟨gb153, 0, none⟩) (by first | (rw [add_block]; exact hn166_0) | (show (Addr.add _ _).block ≠ _; rw [add_block]; exact hn166_0) | exact hn166_0) (.int .u32 t156)).trans hx166_0; replace hx166_0 := (cell_far (p := ⟨gb153, 1, none⟩) (by first | (rw [add_block]; exact hn166_1) | (show (Addr.add _ _).block ≠ _; rw [add_block]; exact hn166_1) | exact hn166_1) (.slice Ao50 t157.length co50)).trans hx166_0; replace hx166_0 := (cell_far (p := ⟨gb153, 2, none⟩) (by first | (rw [add_block]; exact hn166_2) | (show (Addr.add _ _).block ≠ _; rw [add_block]; exact hn166_2) | exact hn166_2) (.slice Ao51 t160.length co51)).trans hx166_0; replace hx166_0 := (cell_far (p := ⟨gb153, 3, none⟩) (by first | (rw [add_block]; exact hn166_3) | (show (Addr.add _ _).block ≠ _; rw [add_block]; exact hn166_3) | exact hn166_3) (.bool t163)).trans hx166_0; replace hx166_0 := (cell_far (p := ⟨gb153, 4, none⟩) (by first | (rw [add_block]; exact hn166_4) | (show (Addr.add _ _).block ≠ _; rw [add_block]; exact hn166_4) | exact hn166_4) (.int .i64 t164)).trans hx166_0; clear hn166_0; clear hn166_1; clear hn166_2; clear hn166_3; clear hn166_4; replace p166 := eq_true p166; replace q166 := eq_true q166))
                              go_roundg k1
                              case measure => have := HK1.out; omega
                              case rel => exact ⟨(x8_1), (wrap64 (x28_1 + 1)), (t156), (t157), (t160), (t163), (t164), (.slice Ao50 t157.length co50), (.slice Ao51 t160.length co51), (by first | rfl | (simp; done) | (simp [*]; done)), (by first | rfl | (simp; done) | (simp [*]; done)), H', ⟨by have := HK1.out; omega⟩, ⟨rm_ HO159 (fun _ h => h.1.1)⟩, ⟨rm_ HO162 (fun _ h => h.1.1)⟩, ⟨bs_⟩, ⟨bel_⟩⟩
                          · rw [if_neg c24] at H
                            have c24b0 : decide (x28_1 < (l1.length : Int)) = false := decide_eq_false c24
                            clear c24
                            have H' := Aside0.mk H
                            clear H
                            have p154 : 0 ≤ (x28_1 : Int) := of_decide_eq_true (by first | (with_reducible assumption) | assumption)
                            have q154 : x28_1 < (l0.length : Int) := of_decide_eq_true (by first | (with_reducible assumption) | assumption)
                            obtain ⟨ad154, e154, hx154_0, hx154_1⟩ := at_T32 HR0.out x28_1 p154 q154
                            cases e154
                            replace hx154_0 := (HB.out.cell (World.block_lt_of_cell? w _ hx154_0)).trans hx154_0
                            replace hx154_1 := (HB.out.cell (World.block_lt_of_cell? w _ hx154_1)).trans hx154_1
                            replace p154 := eq_true p154
                            replace q154 := eq_true q154
                            go_wp2_with (first | ((with_reducible refine gate_dst (N := 10) rfl ?_); (try (refine gate_guard (by rfl) ?_; dsimp only)); refine bx_ (N := 10) (cs := #[.string (⟨#[]⟩ : ByteArray), .string (⟨#[]⟩ : ByteArray)]) (t := 32) ?_; intro gb155 hg w52 hbox hb; have BK155 := Aside0.mk (hbox); have GW155 := ge_ hg; have GE155 := ge_ hg; have NB153_155 := nl_ BK153 hg; have NB155_153 := ng_ BK153 hg; replace HO_154001 := rb_ HO_154001 hb; replace HO_154002 := rb_ HO_154002 hb; replace BK153 := kb_ BK153 hb; replace HB := hb_ hb; clear hb hbox hg; have hnb53 := NB155_153.out; have hnc53 := NB153_155.out; obtain ⟨hcz54_0, hcz54_1⟩ := cl2_ BK155; obtain ⟨hfz54_0, hfz54_1⟩ := fz2_ BK155; obtain ⟨hcz55_0, hcz55_1, hcz55_2, hcz55_3, hcz55_4⟩ := cl5_ BK153; obtain ⟨hfz55_0, hfz55_1, hfz55_2, hfz55_3, hfz55_4⟩ := fz5_ BK153; obtain ⟨Ao56, co56, eo56⟩ := Kd.R_slice HO_154001.out; subst eo56; obtain ⟨Ao57, co57, eo57⟩ := Kd.R_slice HO_154002.out; subst eo57) | ((with_reducible refine gate_callee (f := 6) rfl ?_); refine gl_ (some 46) Tryd.func6 #[.agg #[.int .u32 x154000_1, .slice Ao56 x154001_1.length co56, .slice Ao57 x154002_1.length co57, .bool x154003_1, .int .i64 x154004_1], .int .u32 ((x28_1) % 4294967296), .string (((((rd_T32 l0 x28_1).f0) ++ (⟨#[46]⟩ : ByteArray)) ++ ((rd_T32 l0 x28_1).f1)) ++ (⟨#[46]⟩ : ByteArray))] ?_; (with_reducible refine (dev_Write.calls k1 x154000_1 _ _ x154001_1 _ _ x154002_1 x154003_1 x154004_1 ((x28_1) % 4294967296) (((((rd_T32 l0 x28_1).f0) ++ (⟨#[46]⟩ : ByteArray)) ++ ((rd_T32 l0 x28_1).f1)) ++ (⟨#[46]⟩ : ByteArray)) t156 t157 t160 t163 t164 t165 _ ?side1 ?side2 ?side3 ?side4 A23.out).mono ?_); (case side1 => exact (Kd.R_reads' (rw_ HO_154001)).2.2); (case side2 => exact (Kd.R_reads' HO_154001.out).2.1); (case side3 => exact (Kd.R_reads' (rw_ HO_154002)).2.2); (case side4 => exact (Kd.R_reads' HO_154002.out).2.1); rintro e w58 ⟨v158, v161, rfl, ho0, ho1, hb⟩; refine ⟨_, rfl, ?_⟩; have HO159 := Aside0.mk (Kd.R_lower (Kd.R_new' (Kd.R_new' ho0 (Kd.R_lt (rw_ HO_154001))) (Kd.R_lt (rw_ HO_154002))) (below_size bel_)); have HO162 := Aside0.mk (Kd.R_lower (Kd.R_new' (Kd.R_new' ho1 (Kd.R_lt (rw_ HO_154001))) (Kd.R_lt (rw_ HO_154002))) (below_size bel_)); replace HO_154001 := Aside0.mk (Kd.R_mono (Kd.R_told (Kd.R_told (Kd.R_old (rw_ HO_154001) hb) (Kd.R_base ho0)) (Kd.R_base ho1)) (fun _ h_ => h_.1)); replace HO_154002 := Aside0.mk (Kd.R_mono (Kd.R_told (Kd.R_told (Kd.R_old (rw_ HO_154002) hb) (Kd.R_base ho0)) (Kd.R_base ho1)) (fun _ h_ => h_.1)); replace BK153 := Aside0.mk (blk_below (g := gb153) (o := .cells #[.int .u32 x154000_1, .slice Ao56 x154001_1.length co56, .slice Ao57 x154002_1.length co57, .bool x154003_1, .int .i64 x154004_1] 30 (0, 0)) (bs_) hb); replace HB := hb_ hb; replace BK155 := Aside0.mk (blk_below (g := gb155) (o := .cells #[.string ((rd_T32 l0 x28_1).f0), .string ((rd_T32 l0 x28_1).f1)] 32 (0, 0)) (bs_) hb); (try clear hb); (try clear hb2); (try clear hk); (try clear hi); (try clear ho0); (try clear ho1); obtain ⟨hcz59_0, hcz59_1, hcz59_2, hcz59_3, hcz59_4⟩ := cl5_ BK153; obtain ⟨hfz59_0, hfz59_1, hfz59_2, hfz59_3, hfz59_4⟩ := fz5_ BK153; obtain ⟨Ao60, co60, eo60⟩ := Kd.R_slice HO159.out; subst eo60; obtain ⟨Ao61, co61, eo61⟩ := Kd.R_slice HO162.out; subst eo61))
                            go_roundg k1
                            case measure => have := HK1.out; omega
                            case rel => exact ⟨(x8_1), (wrap64 (x28_1 + 1)), (t156), (t157), (t160), (t163), (t164), (.slice Ao60 t157.length co60), (.slice Ao61 t160.length co61), (by first | rfl | (simp; done) | (simp [*]; done)), (by first | rfl | (simp; done) | (simp [*]; done)), H', ⟨by have := HK1.out; omega⟩, ⟨rm_ HO159 (fun _ h => h.1.1)⟩, ⟨rm_ HO162 (fun _ h => h.1.1)⟩, ⟨bs_⟩, ⟨bel_⟩⟩
                        · rw [if_neg c22] at H
                          exact absurd H (by simp)
                      · rw [if_neg c21] at H
                        exact absurd H (by simp)
                    · rw [if_neg c20] at H
                      exact absurd H (by simp)
                · rw [if_neg c15] at H
                  exact absurd H (by simp)
              · rw [if_neg c14] at H
                exact absurd H (by simp)
            · rw [if_neg c13] at H
              have c13b0 : decide (x28_1 < (l0.length : Int)) = false := decide_eq_false c13
              clear c13
              (first | rw [c13b0] | (simp only [i64_w, i32_w]; rw [c13b0]) | skip)
              have H' := Aside0.mk H
              clear H
              go_wp2
              go_meet
              case rel => exact ⟨_, (x8_1), (x154000_1), (x154001_1), (x154002_1), (x154003_1), (x154004_1), (u154001), (u154002), (by first | rfl | (simp; done) | (simp [*]; done)), H', ⟨by have := HK1.out; first | omega | exact Nat.le_refl _⟩, ⟨ra_ HO_154001⟩, ⟨ra_ HO_154002⟩, ⟨bk_ BK153⟩, ⟨bel_⟩⟩
      case rest =>
        clear HC8
        try clear c1
        try clear p1
        try clear q1
        try clear hx1
        try clear c2
        try clear p2
        try clear q2
        try clear c3
        try clear c4
        try clear c5
        try clear c6
        try clear p6
        try clear c7
        try clear c7b0
        try clear c7b1
        try clear c13
        try clear c13b0
        try clear c14
        try clear c14b0
        try clear c15
        try clear c15b0
        try clear p15
        try clear q15
        try clear hx15
        try clear c16
        try clear c16b0
        try clear c16b1
        try clear p16
        try clear q16
        try clear hx16
        try clear c18
        try clear c20
        try clear c20b0
        try clear c20b1
        try clear c20b2
        try clear c21
        try clear c21b0
        try clear c21b1
        try clear c21b2
        try clear c22
        try clear c22b0
        try clear c22b1
        try clear c22b2
        try clear c24
        try clear c24b0
        try clear q25
        try clear c26
        try clear c29
        try clear c43
        try clear c53
        try clear hcz12_0
        try clear hcz12_1
        try clear hcz12_2
        try clear hcz12_3
        try clear hcz12_4
        try clear hcz19_0
        try clear hcz19_1
        try clear hcz30_0
        try clear hcz30_1
        try clear hcz31_0
        try clear hcz31_1
        try clear hcz31_2
        try clear hcz31_3
        try clear hcz31_4
        try clear hcz35_0
        try clear hcz35_1
        try clear hcz35_2
        try clear hcz35_3
        try clear hcz35_4
        try clear hcz39_0
        try clear hcz39_1
        try clear hcz39_2
        try clear hcz39_3
        try clear hcz39_4
        try clear hcz44_0
        try clear hcz44_1
        try clear hcz45_0
        try clear hcz45_1
        try clear hcz45_2
        try clear hcz45_3
        try clear hcz45_4
        try clear hcz49_0
        try clear hcz49_1
        try clear hcz49_2
        try clear hcz49_3
        try clear hcz49_4
        try clear hcz54_0
        try clear hcz54_1
        try clear hcz55_0
        try clear hcz55_1
        try clear hcz55_2
        try clear hcz55_3
        try clear hcz55_4
        try clear hcz59_0
        try clear hcz59_1
        try clear hcz59_2
        try clear hcz59_3
        try clear hcz59_4
        try clear hfz12_0
        try clear hfz12_1
        try clear hfz12_2
        try clear hfz12_3
        try clear hfz12_4
        try clear hfz19_0
        try clear hfz19_1
        try clear hfz30_0
        try clear hfz30_1
        try clear hfz31_0
        try clear hfz31_1
        try clear hfz31_2
        try clear hfz31_3
        try clear hfz31_4
        try clear hfz35_0
        try clear hfz35_1
        try clear hfz35_2
        try clear hfz35_3
        try clear hfz35_4
        try clear hfz39_0
        try clear hfz39_1
        try clear hfz39_2
        try clear hfz39_3
        try clear hfz39_4
        try clear hfz44_0
        try clear hfz44_1
        try clear hfz45_0
        try clear hfz45_1
        try clear hfz45_2
        try clear hfz45_3
        try clear hfz45_4
        try clear hfz49_0
        try clear hfz49_1
        try clear hfz49_2
        try clear hfz49_3
        try clear hfz49_4
        try clear hfz54_0
        try clear hfz54_1
        try clear hfz55_0
        try clear hfz55_1
        try clear hfz55_2
        try clear hfz55_3
        try clear hfz55_4
        try clear hfz59_0
        try clear hfz59_1
        try clear hfz59_2
        try clear hfz59_3
        try clear hfz59_4
        try clear hx154_0
        try clear hx154_1
        try clear hx166_0
        try clear p154
        try clear p166
        try clear p2
        try clear q154
        try clear q166
        obtain ⟨kq, x8_7, x154000_7, x154001_7, x154002_7, x154003_7, x154004_7, u154001, u154002, rfl, HA, HJ7, HO_154001, HO_154002, BK153, HB⟩ := hcut
        cases kq with
        | zero => exact absurd HA.out (by simp [cambiumtop_TopWritten.j1])
        | succ kj7 =>
          have H := HA.out
          clear HA
          simp only [cambiumtop_TopWritten.j1] at H
          replace H := Option.bind_eq_some_iff.mp H
          obtain ⟨⟨t177, t178, t181, t184, t185, t186⟩, A620, H⟩ := H
          replace H : (cambiumtop_TopWritten.l1 kj7 l0 l2 x8_7 t186 l0 (l0.length : Int) 0 t177 t178 t181 t184 t185) = some r := H
          have A62 := Aside0.mk A620
          clear A620
          have H' := Aside0.mk H
          clear H
          obtain ⟨hcz63_0, hcz63_1, hcz63_2, hcz63_3, hcz63_4⟩ := cl5_ BK153
          obtain ⟨hfz63_0, hfz63_1, hfz63_2, hfz63_3, hfz63_4⟩ := fz5_ BK153
          obtain ⟨Ao64, co64, eo64⟩ := Kd.R_slice HO_154001.out
          subst eo64
          obtain ⟨Ao65, co65, eo65⟩ := Kd.R_slice HO_154002.out
          subst eo65
          go_wp2_with (first | ((with_reducible refine gate_callee (f := 8) rfl ?_); refine gl_ (some 70) Tryd.func8 #[.agg #[.int .u32 x154000_7, .slice Ao64 x154001_7.length co64, .slice Ao65 x154002_7.length co65, .bool x154003_7, .int .i64 x154004_7], .slice A2 l2.length c2] ?_; (with_reducible refine (dev_Crash.calls kj7 x154000_7 _ _ x154001_7 _ _ x154002_7 x154003_7 x154004_7 _ _ l2 t177 t178 t181 t184 t185 t186 _ ?side1 ?side2 ?side3 ?side4 ?side5 ?side6 A62.out).mono ?_); (case side1 => exact cr_ HO_154001); (case side2 => exact (Kd.R_reads' HO_154001.out).2.1); (case side3 => exact cr_ HO_154002); (case side4 => exact (Kd.R_reads' HO_154002.out).2.1); (case side5 => exact cb_ HR2); (case side6 => exact HC2.out); rintro e w66 ⟨v179, v182, rfl, ho0, ho1, hb⟩; refine ⟨_, rfl, ?_⟩; have HO180 := Aside0.mk (Kd.R_lower (Kd.R_new' (Kd.R_new' ho0 (Kd.R_lt (ra_ HO_154001))) (Kd.R_lt (ra_ HO_154002))) (below_size bel_)); have HO183 := Aside0.mk (Kd.R_lower (Kd.R_new' (Kd.R_new' ho1 (Kd.R_lt (ra_ HO_154001))) (Kd.R_lt (ra_ HO_154002))) (below_size bel_)); replace HO_154001 := Aside0.mk (Kd.R_mono (Kd.R_told (Kd.R_told (Kd.R_old (ra_ HO_154001) hb) (Kd.R_base ho0)) (Kd.R_base ho1)) (fun _ h_ => h_.1)); replace HO_154002 := Aside0.mk (Kd.R_mono (Kd.R_told (Kd.R_told (Kd.R_old (ra_ HO_154002) hb) (Kd.R_base ho0)) (Kd.R_base ho1)) (fun _ h_ => h_.1)); replace BK153 := kb_ BK153 hb; replace HB := hb_ hb; (try clear hb); (try clear hb2); (try clear hk); (try clear hi); (try clear ho0); (try clear ho1); obtain ⟨hcz67_0, hcz67_1, hcz67_2, hcz67_3, hcz67_4⟩ := cl5_ BK153; obtain ⟨hfz67_0, hfz67_1, hfz67_2, hfz67_3, hfz67_4⟩ := fz5_ BK153; obtain ⟨Ao68, co68, eo68⟩ := Kd.R_slice HO180.out; subst eo68; obtain ⟨Ao69, co69, eo69⟩ := Kd.R_slice HO183.out; subst eo69))
          go_loopg [75] kj7 (fun kq v75 w' => ∃ (x75_2 : Int), v75 = .int .i64 x75_2 ∧ Aside0 (cambiumtop_TopWritten.l1 kq l0 l2 x8_7 t186 l0 (l0.length : Int) x75_2 t177 t178 t181 t184 t185 = some r) ∧ Aside0 (kq ≤ kj7) ∧ Aside0 (Kd.R k60 60 w' w.heap.size (fun k_ => some k_ ≠ ((.slice Ao69 t181.length co69) : Value).ownBlock) (.slice Ao68 t178.length co68) t178) ∧ Aside0 (Kd.R k60 60 w' w.heap.size (fun k_ => some k_ ≠ ((.slice Ao68 t178.length co68) : Value).ownBlock) (.slice Ao69 t181.length co69) t181) ∧ Aside0 (w'.heap[gb153]? = some (.cells #[.int .u32 t177, (.slice Ao68 t178.length co68), (.slice Ao69 t181.length co69), .bool t184, .int .i64 t185] 30 (0, 0))) ∧ Aside0 (Below w.heap.size w w'))
          case atStart => exact ⟨(0), (by first | rfl | (simp; done) | (simp [*]; done)), H', ⟨Nat.le_refl _⟩, ⟨rm_ HO180 (fun _ h => h.1.1)⟩, ⟨rm_ HO183 (fun _ h => h.1.1)⟩, ⟨bs_⟩, ⟨bel_⟩⟩
          case round =>
            clear H'
            try clear c1
            try clear p1
            try clear q1
            try clear hx1
            try clear c2
            try clear p2
            try clear q2
            try clear c3
            try clear c4
            try clear c5
            try clear c6
            try clear p6
            try clear c7
            try clear c7b0
            try clear c7b1
            try clear c8
            try clear c13
            try clear c13b0
            try clear c14
            try clear c14b0
            try clear c15
            try clear c15b0
            try clear p15
            try clear q15
            try clear hx15
            try clear c16
            try clear c16b0
            try clear c16b1
            try clear p16
            try clear q16
            try clear hx16
            try clear c18
            try clear c20
            try clear c20b0
            try clear c20b1
            try clear c20b2
            try clear c21
            try clear c21b0
            try clear c21b1
            try clear c21b2
            try clear c22
            try clear c22b0
            try clear c22b1
            try clear c22b2
            try clear c24
            try clear c24b0
            try clear q25
            try clear c26
            try clear c29
            try clear c43
            try clear c53
            try clear p64
            try clear hcz12_0
            try clear hcz12_1
            try clear hcz12_2
            try clear hcz12_3
            try clear hcz12_4
            try clear hcz19_0
            try clear hcz19_1
            try clear hcz30_0
            try clear hcz30_1
            try clear hcz31_0
            try clear hcz31_1
            try clear hcz31_2
            try clear hcz31_3
            try clear hcz31_4
            try clear hcz35_0
            try clear hcz35_1
            try clear hcz35_2
            try clear hcz35_3
            try clear hcz35_4
            try clear hcz39_0
            try clear hcz39_1
            try clear hcz39_2
            try clear hcz39_3
            try clear hcz39_4
            try clear hcz44_0
            try clear hcz44_1
            try clear hcz45_0
            try clear hcz45_1
            try clear hcz45_2
            try clear hcz45_3
            try clear hcz45_4
            try clear hcz49_0
            try clear hcz49_1
            try clear hcz49_2
            try clear hcz49_3
            try clear hcz49_4
            try clear hcz54_0
            try clear hcz54_1
            try clear hcz55_0
            try clear hcz55_1
            try clear hcz55_2
            try clear hcz55_3
            try clear hcz55_4
            try clear hcz59_0
            try clear hcz59_1
            try clear hcz59_2
            try clear hcz59_3
            try clear hcz59_4
            try clear hcz63_0
            try clear hcz63_1
            try clear hcz63_2
            try clear hcz63_3
            try clear hcz63_4
            try clear hcz67_0
            try clear hcz67_1
            try clear hcz67_2
            try clear hcz67_3
            try clear hcz67_4
            try clear hfz12_0
            try clear hfz12_1
            try clear hfz12_2
            try clear hfz12_3
            try clear hfz12_4
            try clear hfz19_0
            try clear hfz19_1
            try clear hfz30_0
            try clear hfz30_1
            try clear hfz31_0
            try clear hfz31_1
            try clear hfz31_2
            try clear hfz31_3
            try clear hfz31_4
            try clear hfz35_0
            try clear hfz35_1
            try clear hfz35_2
            try clear hfz35_3
            try clear hfz35_4
            try clear hfz39_0
            try clear hfz39_1
            try clear hfz39_2
            try clear hfz39_3
            try clear hfz39_4
            try clear hfz44_0
            try clear hfz44_1
            try clear hfz45_0
            try clear hfz45_1
            try clear hfz45_2
            try clear hfz45_3
            try clear hfz45_4
            try clear hfz49_0
            try clear hfz49_1
            try clear hfz49_2
            try clear hfz49_3
            try clear hfz49_4
            try clear hfz54_0
            try clear hfz54_1
            try clear hfz55_0
            try clear hfz55_1
            try clear hfz55_2
            try clear hfz55_3
            try clear hfz55_4
            try clear hfz59_0
            try clear hfz59_1
            try clear hfz59_2
            try clear hfz59_3
            try clear hfz59_4
            try clear hfz63_0
            try clear hfz63_1
            try clear hfz63_2
            try clear hfz63_3
            try clear hfz63_4
            try clear hfz67_0
            try clear hfz67_1
            try clear hfz67_2
            try clear hfz67_3
            try clear hfz67_4
            try clear hx154_0
            try clear hx154_1
            try clear hx166_0
            try clear p1
            try clear p15
            try clear p154
            try clear p16
            try clear p166
            try clear p2
            try clear p6
            try clear q1
            try clear q15
            try clear q154
            try clear q16
            try clear q166
            try clear q2
            try clear q25
            obtain ⟨x75_2, rfl, HA, HK2, HO_154001, HO_154002, BK153, HB⟩ := hrel
            cases gk with
            | zero => exact absurd HA.out (by simp [cambiumtop_TopWritten.l1])
            | succ k2 =>
              have H := HA.out
              clear HA
              simp only [cambiumtop_TopWritten.l1] at H
              by_cases c70 : x75_2 < (l0.length : Int)
              · rw [if_pos c70] at H
                have c70b0 : decide (x75_2 < (l0.length : Int)) = true := decide_eq_true c70
                clear c70
                by_cases c71 : 0 ≤ x75_2
                · rw [if_pos c71] at H
                  have c71b0 : decide (0 ≤ x75_2) = true := decide_eq_true c71
                  clear c71
                  by_cases c72 : x75_2 < (l0.length : Int)
                  · rw [if_pos c72] at H
                    have c72b0 : decide (x75_2 < (l0.length : Int)) = true := decide_eq_true c72
                    clear c72
                    by_cases c73 : x75_2 = 16
                    · rw [if_pos c73] at H
                      have c73b0 : (x75_2 == 16) = true := beq_iff_eq.mpr c73
                      have c73b1 : (x75_2 != 16) = false := bne_eq_false_iff_eq.mpr c73
                      clear c73
                      obtain rfl := Option.some.inj H
                      have p187 : 0 ≤ (x75_2 : Int) := of_decide_eq_true (by first | (with_reducible assumption) | assumption)
                      have q187 : x75_2 < (l0.length : Int) := of_decide_eq_true (by first | (with_reducible assumption) | assumption)
                      obtain ⟨ad187, e187, hx187_0, hx187_1⟩ := at_T32 HR0.out x75_2 p187 q187
                      cases e187
                      replace hx187_0 := (HB.out.cell (World.block_lt_of_cell? w _ hx187_0)).trans hx187_0
                      replace hx187_1 := (HB.out.cell (World.block_lt_of_cell? w _ hx187_1)).trans hx187_1
                      replace p187 := eq_true p187
                      replace q187 := eq_true q187
                      go_wp2_with (first | ((with_reducible refine gate_dst (N := 13) rfl ?_); (try (refine gate_guard (by rfl) ?_; dsimp only)); refine bx_ (N := 13) (cs := #[.string (⟨#[]⟩ : ByteArray), .string (⟨#[]⟩ : ByteArray)]) (t := 32) ?_; intro gb188 hg w74 hbox hb; have BK188 := Aside0.mk (hbox); have GW188 := ge_ hg; have GE188 := ge_ hg; have NB153_188 := nl_ BK153 hg; have NB188_153 := ng_ BK153 hg; replace HO_154001 := rb_ HO_154001 hb; replace HO_154002 := rb_ HO_154002 hb; replace BK153 := kb_ BK153 hb; replace HB := hb_ hb; clear hb hbox hg; have hnb75 := NB188_153.out; have hnc75 := NB153_188.out; obtain ⟨hcz76_0, hcz76_1⟩ := cl2_ BK188; obtain ⟨hfz76_0, hfz76_1⟩ := fz2_ BK188))
                      go_ret
                      exact ⟨by first | rfl | (simp [errW_none, errW_some] <;> rfl) | (simp [*, errW_none, errW_some] <;> rfl), bel_⟩
                    · rw [if_neg c73] at H
                      have c73b0 : (x75_2 == 16) = false := beq_eq_false_iff_ne.mpr c73
                      have c73b1 : (x75_2 != 16) = true := bne_iff_ne.mpr c73
                      replace H := Option.bind_eq_some_iff.mp H
                      obtain ⟨⟨t189, t190⟩, A770, H⟩ := H
                      replace H : ((item_Get.f k2 l0 ((rd_T32 l0 x75_2).f0)).bind fun bt191 => (if ((rd_T32 l0 x75_2).f0).size + 1 ≤ 9223372036854775807 then (if (((rd_T32 l0 x75_2).f0) ++ (⟨#[46]⟩ : ByteArray)).size + bt191.1.size ≤ 9223372036854775807 then (if ((((rd_T32 l0 x75_2).f0) ++ (⟨#[46]⟩ : ByteArray)) ++ bt191.1).size + 1 ≤ 9223372036854775807 then (if x75_2 ≥ x8_7 then (if (wrap64 (x75_2 - x8_7)) < (l2.length : Int) then (if 0 ≤ (wrap64 (x75_2 - x8_7)) then (if t190 = 0 then (if bt191.2 = 0 then (if x75_2 < x8_7 then (if ((t189.toList == (((((rd_T32 l0 x75_2).f0) ++ (⟨#[46]⟩ : ByteArray)) ++ bt191.1) ++ (⟨#[46]⟩ : ByteArray)).toList) != true) = true then (some false) else (if (t189.toList = (((((rd_T32 l0 x75_2).f0) ++ (⟨#[46]⟩ : ByteArray)) ++ bt191.1) ++ (⟨#[46]⟩ : ByteArray)).toList) then (cambiumtop_TopWritten.l1 k2 l0 l2 x8_7 t186 l0 (l0.length : Int) (wrap64 (x75_2 + 1)) t177 t178 t181 t184 t185) else (if t189.toList = ([] : List UInt8) then (cambiumtop_TopWritten.l1 k2 l0 l2 x8_7 t186 l0 (l0.length : Int) (wrap64 (x75_2 + 1)) t177 t178 t181 t184 t185) else (some false)))) else (if ((t189.toList == (((((rd_T32 l0 x75_2).f0) ++ (⟨#[46]⟩ : ByteArray)) ++ bt191.1) ++ (⟨#[46]⟩ : ByteArray)).toList) != (rdOf false l2 (wrap64 (x75_2 - x8_7)))) = true then (some false) else (if (t189.toList = (((((rd_T32 l0 x75_2).f0) ++ (⟨#[46]⟩ : ByteArray)) ++ bt191.1) ++ (⟨#[46]⟩ : ByteArray)).toList) then (cambiumtop_TopWritten.l1 k2 l0 l2 x8_7 t186 l0 (l0.length : Int) (wrap64 (x75_2 + 1)) t177 t178 t181 t184 t185) else (if t189.toList = ([] : List UInt8) then (cambiumtop_TopWritten.l1 k2 l0 l2 x8_7 t186 l0 (l0.length : Int) (wrap64 (x75_2 + 1)) t177 t178 t181 t184 t185) else (some false))))) else (some false)) else (some false)) else (none)) else (if t190 = 0 then (if bt191.2 = 0 then (if x75_2 < x8_7 then (if ((t189.toList == (((((rd_T32 l0 x75_2).f0) ++ (⟨#[46]⟩ : ByteArray)) ++ bt191.1) ++ (⟨#[46]⟩ : ByteArray)).toList) != true) = true then (some false) else (if (t189.toList = (((((rd_T32 l0 x75_2).f0) ++ (⟨#[46]⟩ : ByteArray)) ++ bt191.1) ++ (⟨#[46]⟩ : ByteArray)).toList) then (cambiumtop_TopWritten.l1 k2 l0 l2 x8_7 t186 l0 (l0.length : Int) (wrap64 (x75_2 + 1)) t177 t178 t181 t184 t185) else (if t189.toList = ([] : List UInt8) then (cambiumtop_TopWritten.l1 k2 l0 l2 x8_7 t186 l0 (l0.length : Int) (wrap64 (x75_2 + 1)) t177 t178 t181 t184 t185) else (some false)))) else (if ((t189.toList == (((((rd_T32 l0 x75_2).f0) ++ (⟨#[46]⟩ : ByteArray)) ++ bt191.1) ++ (⟨#[46]⟩ : ByteArray)).toList) != false) = true then (some false) else (if (t189.toList = (((((rd_T32 l0 x75_2).f0) ++ (⟨#[46]⟩ : ByteArray)) ++ bt191.1) ++ (⟨#[46]⟩ : ByteArray)).toList) then (cambiumtop_TopWritten.l1 k2 l0 l2 x8_7 t186 l0 (l0.length : Int) (wrap64 (x75_2 + 1)) t177 t178 t181 t184 t185) else (if t189.toList = ([] : List UInt8) then (cambiumtop_TopWritten.l1 k2 l0 l2 x8_7 t186 l0 (l0.length : Int) (wrap64 (x75_2 + 1)) t177 t178 t181 t184 t185) else (some false))))) else (some false)) else (some false))) else (if t190 = 0 then (if bt191.2 = 0 then (if x75_2 < x8_7 then (if ((t189.toList == (((((rd_T32 l0 x75_2).f0) ++ (⟨#[46]⟩ : ByteArray)) ++ bt191.1) ++ (⟨#[46]⟩ : ByteArray)).toList) != true) = true then (some false) else (if (t189.toList = (((((rd_T32 l0 x75_2).f0) ++ (⟨#[46]⟩ : ByteArray)) ++ bt191.1) ++ (⟨#[46]⟩ : ByteArray)).toList) then (cambiumtop_TopWritten.l1 k2 l0 l2 x8_7 t186 l0 (l0.length : Int) (wrap64 (x75_2 + 1)) t177 t178 t181 t184 t185) else (if t189.toList = ([] : List UInt8) then (cambiumtop_TopWritten.l1 k2 l0 l2 x8_7 t186 l0 (l0.length : Int) (wrap64 (x75_2 + 1)) t177 t178 t181 t184 t185) else (some false)))) else (if ((t189.toList == (((((rd_T32 l0 x75_2).f0) ++ (⟨#[46]⟩ : ByteArray)) ++ bt191.1) ++ (⟨#[46]⟩ : ByteArray)).toList) != false) = true then (some false) else (if (t189.toList = (((((rd_T32 l0 x75_2).f0) ++ (⟨#[46]⟩ : ByteArray)) ++ bt191.1) ++ (⟨#[46]⟩ : ByteArray)).toList) then (cambiumtop_TopWritten.l1 k2 l0 l2 x8_7 t186 l0 (l0.length : Int) (wrap64 (x75_2 + 1)) t177 t178 t181 t184 t185) else (if t189.toList = ([] : List UInt8) then (cambiumtop_TopWritten.l1 k2 l0 l2 x8_7 t186 l0 (l0.length : Int) (wrap64 (x75_2 + 1)) t177 t178 t181 t184 t185) else (some false))))) else (some false)) else (some false))) else (none)) else (none)) else (none))) = some r := H
                      have A77 := Aside0.mk A770
                      clear A770
                      replace H := Option.bind_eq_some_iff.mp H
                      obtain ⟨⟨t191, t192⟩, A780, H⟩ := H
                      replace H : (if ((rd_T32 l0 x75_2).f0).size + 1 ≤ 9223372036854775807 then (if (((rd_T32 l0 x75_2).f0) ++ (⟨#[46]⟩ : ByteArray)).size + t191.size ≤ 9223372036854775807 then (if ((((rd_T32 l0 x75_2).f0) ++ (⟨#[46]⟩ : ByteArray)) ++ t191).size + 1 ≤ 9223372036854775807 then (if x75_2 ≥ x8_7 then (if (wrap64 (x75_2 - x8_7)) < (l2.length : Int) then (if 0 ≤ (wrap64 (x75_2 - x8_7)) then (if t190 = 0 then (if t192 = 0 then (if x75_2 < x8_7 then (if ((t189.toList == (((((rd_T32 l0 x75_2).f0) ++ (⟨#[46]⟩ : ByteArray)) ++ t191) ++ (⟨#[46]⟩ : ByteArray)).toList) != true) = true then (some false) else (if (t189.toList = (((((rd_T32 l0 x75_2).f0) ++ (⟨#[46]⟩ : ByteArray)) ++ t191) ++ (⟨#[46]⟩ : ByteArray)).toList) then (cambiumtop_TopWritten.l1 k2 l0 l2 x8_7 t186 l0 (l0.length : Int) (wrap64 (x75_2 + 1)) t177 t178 t181 t184 t185) else (if t189.toList = ([] : List UInt8) then (cambiumtop_TopWritten.l1 k2 l0 l2 x8_7 t186 l0 (l0.length : Int) (wrap64 (x75_2 + 1)) t177 t178 t181 t184 t185) else (some false)))) else (if ((t189.toList == (((((rd_T32 l0 x75_2).f0) ++ (⟨#[46]⟩ : ByteArray)) ++ t191) ++ (⟨#[46]⟩ : ByteArray)).toList) != (rdOf false l2 (wrap64 (x75_2 - x8_7)))) = true then (some false) else (if (t189.toList = (((((rd_T32 l0 x75_2).f0) ++ (⟨#[46]⟩ : ByteArray)) ++ t191) ++ (⟨#[46]⟩ : ByteArray)).toList) then (cambiumtop_TopWritten.l1 k2 l0 l2 x8_7 t186 l0 (l0.length : Int) (wrap64 (x75_2 + 1)) t177 t178 t181 t184 t185) else (if t189.toList = ([] : List UInt8) then (cambiumtop_TopWritten.l1 k2 l0 l2 x8_7 t186 l0 (l0.length : Int) (wrap64 (x75_2 + 1)) t177 t178 t181 t184 t185) else (some false))))) else (some false)) else (some false)) else (none)) else (if t190 = 0 then (if t192 = 0 then (if x75_2 < x8_7 then (if ((t189.toList == (((((rd_T32 l0 x75_2).f0) ++ (⟨#[46]⟩ : ByteArray)) ++ t191) ++ (⟨#[46]⟩ : ByteArray)).toList) != true) = true then (some false) else (if (t189.toList = (((((rd_T32 l0 x75_2).f0) ++ (⟨#[46]⟩ : ByteArray)) ++ t191) ++ (⟨#[46]⟩ : ByteArray)).toList) then (cambiumtop_TopWritten.l1 k2 l0 l2 x8_7 t186 l0 (l0.length : Int) (wrap64 (x75_2 + 1)) t177 t178 t181 t184 t185) else (if t189.toList = ([] : List UInt8) then (cambiumtop_TopWritten.l1 k2 l0 l2 x8_7 t186 l0 (l0.length : Int) (wrap64 (x75_2 + 1)) t177 t178 t181 t184 t185) else (some false)))) else (if ((t189.toList == (((((rd_T32 l0 x75_2).f0) ++ (⟨#[46]⟩ : ByteArray)) ++ t191) ++ (⟨#[46]⟩ : ByteArray)).toList) != false) = true then (some false) else (if (t189.toList = (((((rd_T32 l0 x75_2).f0) ++ (⟨#[46]⟩ : ByteArray)) ++ t191) ++ (⟨#[46]⟩ : ByteArray)).toList) then (cambiumtop_TopWritten.l1 k2 l0 l2 x8_7 t186 l0 (l0.length : Int) (wrap64 (x75_2 + 1)) t177 t178 t181 t184 t185) else (if t189.toList = ([] : List UInt8) then (cambiumtop_TopWritten.l1 k2 l0 l2 x8_7 t186 l0 (l0.length : Int) (wrap64 (x75_2 + 1)) t177 t178 t181 t184 t185) else (some false))))) else (some false)) else (some false))) else (if t190 = 0 then (if t192 = 0 then (if x75_2 < x8_7 then (if ((t189.toList == (((((rd_T32 l0 x75_2).f0) ++ (⟨#[46]⟩ : ByteArray)) ++ t191) ++ (⟨#[46]⟩ : ByteArray)).toList) != true) = true then (some false) else (if (t189.toList = (((((rd_T32 l0 x75_2).f0) ++ (⟨#[46]⟩ : ByteArray)) ++ t191) ++ (⟨#[46]⟩ : ByteArray)).toList) then (cambiumtop_TopWritten.l1 k2 l0 l2 x8_7 t186 l0 (l0.length : Int) (wrap64 (x75_2 + 1)) t177 t178 t181 t184 t185) else (if t189.toList = ([] : List UInt8) then (cambiumtop_TopWritten.l1 k2 l0 l2 x8_7 t186 l0 (l0.length : Int) (wrap64 (x75_2 + 1)) t177 t178 t181 t184 t185) else (some false)))) else (if ((t189.toList == (((((rd_T32 l0 x75_2).f0) ++ (⟨#[46]⟩ : ByteArray)) ++ t191) ++ (⟨#[46]⟩ : ByteArray)).toList) != false) = true then (some false) else (if (t189.toList = (((((rd_T32 l0 x75_2).f0) ++ (⟨#[46]⟩ : ByteArray)) ++ t191) ++ (⟨#[46]⟩ : ByteArray)).toList) then (cambiumtop_TopWritten.l1 k2 l0 l2 x8_7 t186 l0 (l0.length : Int) (wrap64 (x75_2 + 1)) t177 t178 t181 t184 t185) else (if t189.toList = ([] : List UInt8) then (cambiumtop_TopWritten.l1 k2 l0 l2 x8_7 t186 l0 (l0.length : Int) (wrap64 (x75_2 + 1)) t177 t178 t181 t184 t185) else (some false))))) else (some false)) else (some false))) else (none)) else (none)) else (none)) = some r := H
                      have A78 := Aside0.mk A780
                      clear A780
                      by_cases c79 : ((rd_T32 l0 x75_2).f0).size + 1 ≤ 9223372036854775807
                      · rw [if_pos c79] at H
                        have c79b0 := eq_true c79
                        have c79b1 : decide (((rd_T32 l0 x75_2).f0).size + 1 ≤ 9223372036854775807) = true := decide_eq_true c79
                        try have c79b2 : (9223372036854775807 < ((rd_T32 l0 x75_2).f0).size + 1) = False := eq_false (Nat.not_lt.2 c79)
                        by_cases c80 : (((rd_T32 l0 x75_2).f0) ++ (⟨#[46]⟩ : ByteArray)).size + t191.size ≤ 9223372036854775807
                        · rw [if_pos c80] at H
                          have c80b0 := eq_true c80
                          have c80b1 : decide ((((rd_T32 l0 x75_2).f0) ++ (⟨#[46]⟩ : ByteArray)).size + t191.size ≤ 9223372036854775807) = true := decide_eq_true c80
                          have c80b1x := c80b1
                          (try simp only [ByteArray.size_append, Int.natCast_add, show (⟨#[46]⟩ : ByteArray).size = 1 from rfl, show ((1 : Nat) : Int) = 1 from rfl] at c80b1x)
                          try have c80b2 : (9223372036854775807 < (((rd_T32 l0 x75_2).f0) ++ (⟨#[46]⟩ : ByteArray)).size + t191.size) = False := eq_false (Nat.not_lt.2 c80)
                          try have c80b2x := c80b2
                          (try simp only [ByteArray.size_append, Int.natCast_add, show (⟨#[46]⟩ : ByteArray).size = 1 from rfl, show ((1 : Nat) : Int) = 1 from rfl] at c80b2x)
                          by_cases c81 : ((((rd_T32 l0 x75_2).f0) ++ (⟨#[46]⟩ : ByteArray)) ++ t191).size + 1 ≤ 9223372036854775807
                          · rw [if_pos c81] at H
                            have c81b0 := eq_true c81
                            have c81b1 : decide (((((rd_T32 l0 x75_2).f0) ++ (⟨#[46]⟩ : ByteArray)) ++ t191).size + 1 ≤ 9223372036854775807) = true := decide_eq_true c81
                            have c81b1x := c81b1
                            (try simp only [ByteArray.size_append, Int.natCast_add, show (⟨#[46]⟩ : ByteArray).size = 1 from rfl, show ((1 : Nat) : Int) = 1 from rfl] at c81b1x)
                            try have c81b2 : (9223372036854775807 < ((((rd_T32 l0 x75_2).f0) ++ (⟨#[46]⟩ : ByteArray)) ++ t191).size + 1) = False := eq_false (Nat.not_lt.2 c81)
                            try have c81b2x := c81b2
                            (try simp only [ByteArray.size_append, Int.natCast_add, show (⟨#[46]⟩ : ByteArray).size = 1 from rfl, show ((1 : Nat) : Int) = 1 from rfl] at c81b2x)
                            by_cases c82 : x75_2 ≥ x8_7
                            · rw [if_pos c82] at H
                              have c82b0 : decide (x8_7 ≤ x75_2) = true := decide_eq_true c82
                              clear c82
                              by_cases c83 : (wrap64 (x75_2 - x8_7)) < (l2.length : Int)
                              · rw [if_pos c83] at H
                                have c83b0 : decide ((wrap64 (x75_2 - x8_7)) < (l2.length : Int)) = true := decide_eq_true c83
                                clear c83
                                obtain ⟨ji84, hji84⟩ : ∃ j_ : Int, (wrap64 (x75_2 - x8_7)) = j_ := ⟨_, rfl⟩
                                replace H : (if 0 ≤ (ji84) then (if t190 = 0 then (if t192 = 0 then (if x75_2 < x8_7 then (if ((t189.toList == (((((rd_T32 l0 x75_2).f0) ++ (⟨#[46]⟩ : ByteArray)) ++ t191) ++ (⟨#[46]⟩ : ByteArray)).toList) != true) = true then (some false) else (if (t189.toList = (((((rd_T32 l0 x75_2).f0) ++ (⟨#[46]⟩ : ByteArray)) ++ t191) ++ (⟨#[46]⟩ : ByteArray)).toList) then (cambiumtop_TopWritten.l1 k2 l0 l2 x8_7 t186 l0 (l0.length : Int) (wrap64 (x75_2 + 1)) t177 t178 t181 t184 t185) else (if t189.toList = ([] : List UInt8) then (cambiumtop_TopWritten.l1 k2 l0 l2 x8_7 t186 l0 (l0.length : Int) (wrap64 (x75_2 + 1)) t177 t178 t181 t184 t185) else (some false)))) else (if ((t189.toList == (((((rd_T32 l0 x75_2).f0) ++ (⟨#[46]⟩ : ByteArray)) ++ t191) ++ (⟨#[46]⟩ : ByteArray)).toList) != (rdOf false l2 (ji84))) = true then (some false) else (if (t189.toList = (((((rd_T32 l0 x75_2).f0) ++ (⟨#[46]⟩ : ByteArray)) ++ t191) ++ (⟨#[46]⟩ : ByteArray)).toList) then (cambiumtop_TopWritten.l1 k2 l0 l2 x8_7 t186 l0 (l0.length : Int) (wrap64 (x75_2 + 1)) t177 t178 t181 t184 t185) else (if t189.toList = ([] : List UInt8) then (cambiumtop_TopWritten.l1 k2 l0 l2 x8_7 t186 l0 (l0.length : Int) (wrap64 (x75_2 + 1)) t177 t178 t181 t184 t185) else (some false))))) else (some false)) else (some false)) else (none)) = some r := by first | (rw [hji84] at H; exact H) | (simp only [hji84] at H ⊢; exact H)
                                (try rw [hji84] at c83b0)
                                (try rw [hji84] at A77)
                                (try rw [hji84] at A78)
                                have hji84w : (IntKind.i64.wrap (x75_2 - x8_7)) = ji84 := (i64_w _).trans hji84
                                by_cases c85 : 0 ≤ (ji84)
                                · rw [if_pos c85] at H
                                  have c85b0 : decide (0 ≤ (ji84)) = true := decide_eq_true c85
                                  clear c85
                                  by_cases c86 : t190 = 0
                                  · rw [if_pos c86] at H
                                    have c86b0 : (t190 == 0) = true := beq_iff_eq.mpr c86
                                    have c86b1 : (t190 != 0) = false := bne_eq_false_iff_eq.mpr c86
                                    clear c86
                                    by_cases c87 : t192 = 0
                                    · rw [if_pos c87] at H
                                      have c87b0 : (t192 == 0) = true := beq_iff_eq.mpr c87
                                      have c87b1 : (t192 != 0) = false := bne_eq_false_iff_eq.mpr c87
                                      clear c87
                                      by_cases c88 : x75_2 < x8_7
                                      · rw [if_pos c88] at H
                                        have c88b0 : decide (x75_2 < x8_7) = true := decide_eq_true c88
                                        clear c88
                                        by_cases c89 : ((t189.toList == (((((rd_T32 l0 x75_2).f0) ++ (⟨#[46]⟩ : ByteArray)) ++ t191) ++ (⟨#[46]⟩ : ByteArray)).toList) != true) = true
                                        · rw [if_pos c89] at H
                                          have c89b0 : ((t189.toList == (((((rd_T32 l0 x75_2).f0) ++ (⟨#[46]⟩ : ByteArray)) ++ t191) ++ (⟨#[46]⟩ : ByteArray)).toList) != true) = true := c89
                                          (try (have c89b1 : decide ((t189.toList == (((((rd_T32 l0 x75_2).f0) ++ (⟨#[46]⟩ : ByteArray)) ++ t191) ++ (⟨#[46]⟩ : ByteArray)).toList) = true) = false := by simpa using c89))
                                          (try (have c89b2 : ((t189.toList == (((((rd_T32 l0 x75_2).f0) ++ (⟨#[46]⟩ : ByteArray)) ++ t191) ++ (⟨#[46]⟩ : ByteArray)).toList) == true) = false := by simpa using c89))
                                          (try (have c89b3 : ¬ ((t189.toList == (((((rd_T32 l0 x75_2).f0) ++ (⟨#[46]⟩ : ByteArray)) ++ t191) ++ (⟨#[46]⟩ : ByteArray)).toList) = true) := by simpa using c89))
                                          clear c89
                                          exact absurd ((Option.some.inj H).trans HT_.out) (by simp)
                                        · rw [if_neg c89] at H
                                          have c89b0 : ((t189.toList == (((((rd_T32 l0 x75_2).f0) ++ (⟨#[46]⟩ : ByteArray)) ++ t191) ++ (⟨#[46]⟩ : ByteArray)).toList) != true) = false := by simpa using c89
                                          (try (have c89b1 : decide ((t189.toList == (((((rd_T32 l0 x75_2).f0) ++ (⟨#[46]⟩ : ByteArray)) ++ t191) ++ (⟨#[46]⟩ : ByteArray)).toList) = true) = true := by simpa using c89))
                                          (try (have c89b2 : ((t189.toList == (((((rd_T32 l0 x75_2).f0) ++ (⟨#[46]⟩ : ByteArray)) ++ t191) ++ (⟨#[46]⟩ : ByteArray)).toList) == true) = true := by simpa using c89))
                                          clear c89
                                          by_cases c90 : (t189.toList = (((((rd_T32 l0 x75_2).f0) ++ (⟨#[46]⟩ : ByteArray)) ++ t191) ++ (⟨#[46]⟩ : ByteArray)).toList)
                                          · rw [if_pos c90] at H
                                            have c90b0 : (t189.toList == (((((rd_T32 l0 x75_2).f0) ++ (⟨#[46]⟩ : ByteArray)) ++ t191) ++ (⟨#[46]⟩ : ByteArray)).toList) = true := beq_iff_eq.mpr c90
                                            have c90b1 : (t189.toList != (((((rd_T32 l0 x75_2).f0) ++ (⟨#[46]⟩ : ByteArray)) ++ t191) ++ (⟨#[46]⟩ : ByteArray)).toList) = false := bne_eq_false_iff_eq.mpr c90
                                            clear c90
                                            have H' := Aside0.mk H
                                            clear H
                                            have p187 : 0 ≤ (x75_2 : Int) := of_decide_eq_true (by first | (with_reducible assumption) | assumption)
                                            have q187 : x75_2 < (l0.length : Int) := of_decide_eq_true (by first | (with_reducible assumption) | assumption)
                                            obtain ⟨ad187, e187, hx187_0, hx187_1⟩ := at_T32 HR0.out x75_2 p187 q187
                                            cases e187
                                            replace hx187_0 := (HB.out.cell (World.block_lt_of_cell? w _ hx187_0)).trans hx187_0
                                            replace hx187_1 := (HB.out.cell (World.block_lt_of_cell? w _ hx187_1)).trans hx187_1
                                            replace p187 := eq_true p187
                                            replace q187 := eq_true q187
                                            go_wp2_with (first | ((with_reducible refine gate_dst (N := 13) rfl ?_); (try (refine gate_guard (by rfl) ?_; dsimp only)); refine bx_ (N := 13) (cs := #[.string (⟨#[]⟩ : ByteArray), .string (⟨#[]⟩ : ByteArray)]) (t := 32) ?_; intro gb188 hg w91 hbox hb; have BK188 := Aside0.mk (hbox); have GW188 := ge_ hg; have GE188 := ge_ hg; have NB153_188 := nl_ BK153 hg; have NB188_153 := ng_ BK153 hg; replace HO_154001 := rb_ HO_154001 hb; replace HO_154002 := rb_ HO_154002 hb; replace BK153 := kb_ BK153 hb; replace HB := hb_ hb; clear hb hbox hg; have hnb92 := NB188_153.out; have hnc92 := NB153_188.out; obtain ⟨hcz93_0, hcz93_1⟩ := cl2_ BK188; obtain ⟨hfz93_0, hfz93_1⟩ := fz2_ BK188; obtain ⟨hcz94_0, hcz94_1, hcz94_2, hcz94_3, hcz94_4⟩ := cl5_ BK153; obtain ⟨hfz94_0, hfz94_1, hfz94_2, hfz94_3, hfz94_4⟩ := fz5_ BK153) | ((with_reducible refine gate_callee (f := 9) rfl ?_); refine gl_ (some 86) Tryd.func9 #[.agg #[.int .u32 t177, .slice Ao68 t178.length co68, .slice Ao69 t181.length co69, .bool t184, .int .i64 t185], .int .u32 ((x75_2) % 4294967296)] ?_; (with_reducible refine (dev_Read.calls k2 t177 _ _ t178 _ _ t181 t184 t185 ((x75_2) % 4294967296) t189 t190 _ ?side1 ?side2 ?side3 ?side4 A77.out).mono ?_); (case side1 => exact (Kd.R_reads' (rw_ HO_154001)).2.2); (case side2 => exact (Kd.R_reads' HO_154001.out).2.1); (case side3 => exact (Kd.R_reads' (rw_ HO_154002)).2.2); (case side4 => exact (Kd.R_reads' HO_154002.out).2.1); rintro e w95 ⟨rfl, hb⟩; refine ⟨_, rfl, ?_⟩; replace HO_154001 := Aside0.mk (Kd.R_below (rw_ HO_154001) hb); replace HO_154002 := Aside0.mk (Kd.R_below (rw_ HO_154002) hb); replace BK153 := Aside0.mk (blk_below (g := gb153) (o := .cells #[.int .u32 t177, .slice Ao68 t178.length co68, .slice Ao69 t181.length co69, .bool t184, .int .i64 t185] 30 (0, 0)) (bs_) hb); replace HB := hb_ hb; replace BK188 := Aside0.mk (blk_below (g := gb188) (o := .cells #[.string ((rd_T32 l0 x75_2).f0), .string ((rd_T32 l0 x75_2).f1)] 32 (0, 0)) (bs_) hb); (try clear hb); (try clear hb2); (try clear hk); (try clear hi); obtain ⟨hcz96_0, hcz96_1⟩ := cl2_ BK188; obtain ⟨hfz96_0, hfz96_1⟩ := fz2_ BK188) | ((with_reducible refine gate_callee (f := 10) rfl ?_); refine gl_ (some 93) Tryd.func10 #[.slice (some ad187) l0.length c0, .string ((rd_T32 l0 x75_2).f0)] ?_; (with_reducible refine (item_Get.calls k2 _ _ l0 ((rd_T32 l0 x75_2).f0) t191 t192 _ ?side1 ?side2 A78.out).mono ?_); (case side1 => exact cb_ HR0); (case side2 => exact HC0.out); rintro e w97 ⟨rfl, hb⟩; refine ⟨_, rfl, ?_⟩; replace HO_154001 := rb_ HO_154001 hb; replace HO_154002 := rb_ HO_154002 hb; replace BK153 := kb_ BK153 hb; replace BK188 := kb_ BK188 hb; replace HB := hb_ hb; (try clear hb); (try clear hb2); (try clear hk); (try clear hi); obtain ⟨hcz98_0, hcz98_1⟩ := cl2_ BK188; obtain ⟨hfz98_0, hfz98_1⟩ := fz2_ BK188; have p193 : 0 ≤ ((ji84) : Int) := of_decide_eq_true (by first | (with_reducible assumption) | assumption); have q193 : (ji84) < (l2.length : Int) := of_decide_eq_true (by first | (with_reducible assumption) | assumption); obtain ⟨ad193, e193, hx193_0⟩ := Kd.at_bool HR2.out (ji84) p193 q193; cases e193; replace hx193_0 := (HB.out.cell (World.block_lt_of_cell? w _ hx193_0)).trans hx193_0; replace p193 := eq_true p193; replace q193 := eq_true q193))
                                            go_roundg k2
                                            case measure => have := HJ7.out; have := HK2.out; omega
                                            case rel => exact ⟨(wrap64 (x75_2 + 1)), (by first | rfl | (simp; done) | (simp [*]; done)), H', ⟨by have := HJ7.out; have := HK2.out; omega⟩, ⟨ra_ HO_154001⟩, ⟨ra_ HO_154002⟩, ⟨bk_ BK153⟩, ⟨bel_⟩⟩
                                          · rw [if_neg c90] at H
                                            have c90b0 : (t189.toList == (((((rd_T32 l0 x75_2).f0) ++ (⟨#[46]⟩ : ByteArray)) ++ t191) ++ (⟨#[46]⟩ : ByteArray)).toList) = false := beq_eq_false_iff_ne.mpr c90
                                            exact absurd c89b0 (by rw [c90b0]; decide)
                                      · rw [if_neg c88] at H
                                        have c88b0 : decide (x75_2 < x8_7) = false := decide_eq_false c88
                                        clear c88
                                        by_cases c108 : ((t189.toList == (((((rd_T32 l0 x75_2).f0) ++ (⟨#[46]⟩ : ByteArray)) ++ t191) ++ (⟨#[46]⟩ : ByteArray)).toList) != (rdOf false l2 (ji84))) = true
                                        · rw [if_pos c108] at H
                                          have c108b0 : ((t189.toList == (((((rd_T32 l0 x75_2).f0) ++ (⟨#[46]⟩ : ByteArray)) ++ t191) ++ (⟨#[46]⟩ : ByteArray)).toList) != (rdOf false l2 (ji84))) = true := c108
                                          (try (have c108b0s1 := c108b0; simp only [c7b0, c73b0, c86b0, c87b0, Bool.false_and, Bool.true_and, Bool.and_false, Bool.and_true, Bool.bne_false, Bool.bne_true, Bool.not_eq_true', Bool.not_eq_false'] at c108b0s1))
                                          (try (have c108b1 : decide ((t189.toList == (((((rd_T32 l0 x75_2).f0) ++ (⟨#[46]⟩ : ByteArray)) ++ t191) ++ (⟨#[46]⟩ : ByteArray)).toList) = (rdOf false l2 (ji84))) = false := by simpa using c108))
                                          (try (have c108b2 : ((t189.toList == (((((rd_T32 l0 x75_2).f0) ++ (⟨#[46]⟩ : ByteArray)) ++ t191) ++ (⟨#[46]⟩ : ByteArray)).toList) == (rdOf false l2 (ji84))) = false := by simpa using c108))
                                          (try (have c108b3 : ¬ ((t189.toList == (((((rd_T32 l0 x75_2).f0) ++ (⟨#[46]⟩ : ByteArray)) ++ t191) ++ (⟨#[46]⟩ : ByteArray)).toList) = (rdOf false l2 (ji84))) := by simpa using c108))
                                          clear c108
                                          exact absurd ((Option.some.inj H).trans HT_.out) (by simp)
                                        · rw [if_neg c108] at H
                                          have c108b0 : ((t189.toList == (((((rd_T32 l0 x75_2).f0) ++ (⟨#[46]⟩ : ByteArray)) ++ t191) ++ (⟨#[46]⟩ : ByteArray)).toList) != (rdOf false l2 (ji84))) = false := by simpa using c108
                                          (try (have c108b0s2 := c108b0; simp only [c7b0, c73b0, c86b0, c87b0, Bool.false_and, Bool.true_and, Bool.and_false, Bool.and_true, Bool.bne_false, Bool.bne_true, Bool.not_eq_true', Bool.not_eq_false'] at c108b0s2))
                                          (try (have c108b1 : decide ((t189.toList == (((((rd_T32 l0 x75_2).f0) ++ (⟨#[46]⟩ : ByteArray)) ++ t191) ++ (⟨#[46]⟩ : ByteArray)).toList) = (rdOf false l2 (ji84))) = true := by simpa using c108))
                                          (try (have c108b2 : ((t189.toList == (((((rd_T32 l0 x75_2).f0) ++ (⟨#[46]⟩ : ByteArray)) ++ t191) ++ (⟨#[46]⟩ : ByteArray)).toList) == (rdOf false l2 (ji84))) = true := by simpa using c108))
                                          clear c108
                                          by_cases c109 : (t189.toList = (((((rd_T32 l0 x75_2).f0) ++ (⟨#[46]⟩ : ByteArray)) ++ t191) ++ (⟨#[46]⟩ : ByteArray)).toList)
                                          · rw [if_pos c109] at H
                                            have c109b0 : (t189.toList == (((((rd_T32 l0 x75_2).f0) ++ (⟨#[46]⟩ : ByteArray)) ++ t191) ++ (⟨#[46]⟩ : ByteArray)).toList) = true := beq_iff_eq.mpr c109
                                            have c109r := c108b0
                                            rw [c109b0] at c109r
                                            replace c109r : rdOf false l2 (ji84) = true := by revert c109r; cases (rdOf false l2 (ji84)) <;> decide
                                            have c109b1 : (t189.toList != (((((rd_T32 l0 x75_2).f0) ++ (⟨#[46]⟩ : ByteArray)) ++ t191) ++ (⟨#[46]⟩ : ByteArray)).toList) = false := bne_eq_false_iff_eq.mpr c109
                                            clear c109
                                            have H' := Aside0.mk H
                                            clear H
                                            have p187 : 0 ≤ (x75_2 : Int) := of_decide_eq_true (by first | (with_reducible assumption) | assumption)
                                            have q187 : x75_2 < (l0.length : Int) := of_decide_eq_true (by first | (with_reducible assumption) | assumption)
                                            obtain ⟨ad187, e187, hx187_0, hx187_1⟩ := at_T32 HR0.out x75_2 p187 q187
                                            cases e187
                                            replace hx187_0 := (HB.out.cell (World.block_lt_of_cell? w _ hx187_0)).trans hx187_0
                                            replace hx187_1 := (HB.out.cell (World.block_lt_of_cell? w _ hx187_1)).trans hx187_1
                                            replace p187 := eq_true p187
                                            replace q187 := eq_true q187
                                            go_wp2_with (first | ((with_reducible refine gate_dst (N := 13) rfl ?_); (try (refine gate_guard (by rfl) ?_; dsimp only)); refine bx_ (N := 13) (cs := #[.string (⟨#[]⟩ : ByteArray), .string (⟨#[]⟩ : ByteArray)]) (t := 32) ?_; intro gb188 hg w110 hbox hb; have BK188 := Aside0.mk (hbox); have GW188 := ge_ hg; have GE188 := ge_ hg; have NB153_188 := nl_ BK153 hg; have NB188_153 := ng_ BK153 hg; replace HO_154001 := rb_ HO_154001 hb; replace HO_154002 := rb_ HO_154002 hb; replace BK153 := kb_ BK153 hb; replace HB := hb_ hb; clear hb hbox hg; have hnb111 := NB188_153.out; have hnc111 := NB153_188.out; obtain ⟨hcz112_0, hcz112_1⟩ := cl2_ BK188; obtain ⟨hfz112_0, hfz112_1⟩ := fz2_ BK188; obtain ⟨hcz113_0, hcz113_1, hcz113_2, hcz113_3, hcz113_4⟩ := cl5_ BK153; obtain ⟨hfz113_0, hfz113_1, hfz113_2, hfz113_3, hfz113_4⟩ := fz5_ BK153) | ((with_reducible refine gate_callee (f := 9) rfl ?_); refine gl_ (some 86) Tryd.func9 #[.agg #[.int .u32 t177, .slice Ao68 t178.length co68, .slice Ao69 t181.length co69, .bool t184, .int .i64 t185], .int .u32 ((x75_2) % 4294967296)] ?_; (with_reducible refine (dev_Read.calls k2 t177 _ _ t178 _ _ t181 t184 t185 ((x75_2) % 4294967296) t189 t190 _ ?side1 ?side2 ?side3 ?side4 A77.out).mono ?_); (case side1 => exact (Kd.R_reads' (rw_ HO_154001)).2.2); (case side2 => exact (Kd.R_reads' HO_154001.out).2.1); (case side3 => exact (Kd.R_reads' (rw_ HO_154002)).2.2); (case side4 => exact (Kd.R_reads' HO_154002.out).2.1); rintro e w114 ⟨rfl, hb⟩; refine ⟨_, rfl, ?_⟩; replace HO_154001 := Aside0.mk (Kd.R_below (rw_ HO_154001) hb); replace HO_154002 := Aside0.mk (Kd.R_below (rw_ HO_154002) hb); replace BK153 := Aside0.mk (blk_below (g := gb153) (o := .cells #[.int .u32 t177, .slice Ao68 t178.length co68, .slice Ao69 t181.length co69, .bool t184, .int .i64 t185] 30 (0, 0)) (bs_) hb); replace HB := hb_ hb; replace BK188 := Aside0.mk (blk_below (g := gb188) (o := .cells #[.string ((rd_T32 l0 x75_2).f0), .string ((rd_T32 l0 x75_2).f1)] 32 (0, 0)) (bs_) hb); (try clear hb); (try clear hb2); (try clear hk); (try clear hi); obtain ⟨hcz115_0, hcz115_1⟩ := cl2_ BK188; obtain ⟨hfz115_0, hfz115_1⟩ := fz2_ BK188) | ((with_reducible refine gate_callee (f := 10) rfl ?_); refine gl_ (some 93) Tryd.func10 #[.slice (some ad187) l0.length c0, .string ((rd_T32 l0 x75_2).f0)] ?_; (with_reducible refine (item_Get.calls k2 _ _ l0 ((rd_T32 l0 x75_2).f0) t191 t192 _ ?side1 ?side2 A78.out).mono ?_); (case side1 => exact cb_ HR0); (case side2 => exact HC0.out); rintro e w116 ⟨rfl, hb⟩; refine ⟨_, rfl, ?_⟩; replace HO_154001 := rb_ HO_154001 hb; replace HO_154002 := rb_ HO_154002 hb; replace BK153 := kb_ BK153 hb; replace BK188 := kb_ BK188 hb; replace HB := hb_ hb; (try clear hb); (try clear hb2); (try clear hk); (try clear hi); obtain ⟨hcz117_0, hcz117_1⟩ := cl2_ BK188; obtain ⟨hfz117_0, hfz117_1⟩ := fz2_ BK188; have p193 : 0 ≤ ((ji84) : Int) := of_decide_eq_true (by first | (with_reducible assumption) | assumption); have q193 : (ji84) < (l2.length : Int) := of_decide_eq_true (by first | (with_reducible assumption) | assumption); obtain ⟨ad193, e193, hx193_0⟩ := Kd.at_bool HR2.out (ji84) p193 q193; cases e193; replace hx193_0 := (HB.out.cell (World.block_lt_of_cell? w _ hx193_0)).trans hx193_0; replace p193 := eq_true p193; replace q193 := eq_true q193))
                                            go_roundg k2
                                            case measure => have := HJ7.out; have := HK2.out; omega
                                            case rel => exact ⟨(wrap64 (x75_2 + 1)), (by first | rfl | (simp; done) | (simp [*]; done)), H', ⟨by have := HJ7.out; have := HK2.out; omega⟩, ⟨ra_ HO_154001⟩, ⟨ra_ HO_154002⟩, ⟨bk_ BK153⟩, ⟨bel_⟩⟩
                                          · rw [if_neg c109] at H
                                            have c109b0 : (t189.toList == (((((rd_T32 l0 x75_2).f0) ++ (⟨#[46]⟩ : ByteArray)) ++ t191) ++ (⟨#[46]⟩ : ByteArray)).toList) = false := beq_eq_false_iff_ne.mpr c109
                                            have c109r := c108b0
                                            rw [c109b0] at c109r
                                            replace c109r : rdOf false l2 (ji84) = false := by revert c109r; cases (rdOf false l2 (ji84)) <;> decide
                                            have c109b1 : (t189.toList != (((((rd_T32 l0 x75_2).f0) ++ (⟨#[46]⟩ : ByteArray)) ++ t191) ++ (⟨#[46]⟩ : ByteArray)).toList) = true := bne_iff_ne.mpr c109
                                            by_cases c118 : t189.toList = ([] : List UInt8)
                                            · rw [if_pos c118] at H
                                              have c118b0 : (t189.toList == ([] : List UInt8)) = true := beq_iff_eq.mpr c118
                                              have c118b1 : (t189.toList != ([] : List UInt8)) = false := bne_eq_false_iff_eq.mpr c118
                                              clear c118
                                              have H' := Aside0.mk H
                                              clear H
                                              have p187 : 0 ≤ (x75_2 : Int) := of_decide_eq_true (by first | (with_reducible assumption) | assumption)
                                              have q187 : x75_2 < (l0.length : Int) := of_decide_eq_true (by first | (with_reducible assumption) | assumption)
                                              obtain ⟨ad187, e187, hx187_0, hx187_1⟩ := at_T32 HR0.out x75_2 p187 q187
                                              cases e187
                                              replace hx187_0 := (HB.out.cell (World.block_lt_of_cell? w _ hx187_0)).trans hx187_0
                                              replace hx187_1 := (HB.out.cell (World.block_lt_of_cell? w _ hx187_1)).trans hx187_1
                                              replace p187 := eq_true p187
                                              replace q187 := eq_true q187
                                              go_wp2_with (first | ((with_reducible refine gate_dst (N := 13) rfl ?_); (try (refine gate_guard (by rfl) ?_; dsimp only)); refine bx_ (N := 13) (cs := #[.string (⟨#[]⟩ : ByteArray), .string (⟨#[]⟩ : ByteArray)]) (t := 32) ?_; intro gb188 hg w119 hbox hb; have BK188 := Aside0.mk (hbox); have GW188 := ge_ hg; have GE188 := ge_ hg; have NB153_188 := nl_ BK153 hg; have NB188_153 := ng_ BK153 hg; replace HO_154001 := rb_ HO_154001 hb; replace HO_154002 := rb_ HO_154002 hb; replace BK153 := kb_ BK153 hb; replace HB := hb_ hb; clear hb hbox hg; have hnb120 := NB188_153.out; have hnc120 := NB153_188.out; obtain ⟨hcz121_0, hcz121_1⟩ := cl2_ BK188; obtain ⟨hfz121_0, hfz121_1⟩ := fz2_ BK188; obtain ⟨hcz122_0, hcz122_1, hcz122_2, hcz122_3, hcz122_4⟩ := cl5_ BK153; obtain ⟨hfz122_0, hfz122_1, hfz122_2, hfz122_3, hfz122_4⟩ := fz5_ BK153) | ((with_reducible refine gate_callee (f := 9) rfl ?_); refine gl_ (some 86) Tryd.func9 #[.agg #[.int .u32 t177, .slice Ao68 t178.length co68, .slice Ao69 t181.length co69, .bool t184, .int .i64 t185], .int .u32 ((x75_2) % 4294967296)] ?_; (with_reducible refine (dev_Read.calls k2 t177 _ _ t178 _ _ t181 t184 t185 ((x75_2) % 4294967296) t189 t190 _ ?side1 ?side2 ?side3 ?side4 A77.out).mono ?_); (case side1 => exact (Kd.R_reads' (rw_ HO_154001)).2.2); (case side2 => exact (Kd.R_reads' HO_154001.out).2.1); (case side3 => exact (Kd.R_reads' (rw_ HO_154002)).2.2); (case side4 => exact (Kd.R_reads' HO_154002.out).2.1); rintro e w123 ⟨rfl, hb⟩; refine ⟨_, rfl, ?_⟩; replace HO_154001 := Aside0.mk (Kd.R_below (rw_ HO_154001) hb); replace HO_154002 := Aside0.mk (Kd.R_below (rw_ HO_154002) hb); replace BK153 := Aside0.mk (blk_below (g := gb153) (o := .cells #[.int .u32 t177, .slice Ao68 t178.length co68, .slice Ao69 t181.length co69, .bool t184, .int .i64 t185] 30 (0, 0)) (bs_) hb); replace HB := hb_ hb; replace BK188 := Aside0.mk (blk_below (g := gb188) (o := .cells #[.string ((rd_T32 l0 x75_2).f0), .string ((rd_T32 l0 x75_2).f1)] 32 (0, 0)) (bs_) hb); (try clear hb); (try clear hb2); (try clear hk); (try clear hi); obtain ⟨hcz124_0, hcz124_1⟩ := cl2_ BK188; obtain ⟨hfz124_0, hfz124_1⟩ := fz2_ BK188) | ((with_reducible refine gate_callee (f := 10) rfl ?_); refine gl_ (some 93) Tryd.func10 #[.slice (some ad187) l0.length c0, .string ((rd_T32 l0 x75_2).f0)] ?_; (with_reducible refine (item_Get.calls k2 _ _ l0 ((rd_T32 l0 x75_2).f0) t191 t192 _ ?side1 ?side2 A78.out).mono ?_); (case side1 => exact cb_ HR0); (case side2 => exact HC0.out); rintro e w125 ⟨rfl, hb⟩; refine ⟨_, rfl, ?_⟩; replace HO_154001 := rb_ HO_154001 hb; replace HO_154002 := rb_ HO_154002 hb; replace BK153 := kb_ BK153 hb; replace BK188 := kb_ BK188 hb; replace HB := hb_ hb; (try clear hb); (try clear hb2); (try clear hk); (try clear hi); obtain ⟨hcz126_0, hcz126_1⟩ := cl2_ BK188; obtain ⟨hfz126_0, hfz126_1⟩ := fz2_ BK188; have p193 : 0 ≤ ((ji84) : Int) := of_decide_eq_true (by first | (with_reducible assumption) | assumption); have q193 : (ji84) < (l2.length : Int) := of_decide_eq_true (by first | (with_reducible assumption) | assumption); obtain ⟨ad193, e193, hx193_0⟩ := Kd.at_bool HR2.out (ji84) p193 q193; cases e193; replace hx193_0 := (HB.out.cell (World.block_lt_of_cell? w _ hx193_0)).trans hx193_0; replace p193 := eq_true p193; replace q193 := eq_true q193))
                                              go_roundg k2
                                              case measure => have := HJ7.out; have := HK2.out; omega
                                              case rel => exact ⟨(wrap64 (x75_2 + 1)), (by first | rfl | (simp; done) | (simp [*]; done)), H', ⟨by have := HJ7.out; have := HK2.out; omega⟩, ⟨ra_ HO_154001⟩, ⟨ra_ HO_154002⟩, ⟨bk_ BK153⟩, ⟨bel_⟩⟩
                                            · rw [if_neg c118] at H
                                              have c118b0 : (t189.toList == ([] : List UInt8)) = false := beq_eq_false_iff_ne.mpr c118
                                              have c118b1 : (t189.toList != ([] : List UInt8)) = true := bne_iff_ne.mpr c118
                                              exact absurd ((Option.some.inj H).trans HT_.out) (by simp)
                                    · rw [if_neg c87] at H
                                      have c87b0 : (t192 == 0) = false := beq_eq_false_iff_ne.mpr c87
                                      have c87b1 : (t192 != 0) = true := bne_iff_ne.mpr c87
                                      exact absurd ((Option.some.inj H).trans HT_.out) (by simp)
                                  · rw [if_neg c86] at H
                                    have c86b0 : (t190 == 0) = false := beq_eq_false_iff_ne.mpr c86
                                    have c86b1 : (t190 != 0) = true := bne_iff_ne.mpr c86
                                    exact absurd ((Option.some.inj H).trans HT_.out) (by simp)
                                · rw [if_neg c85] at H
                                  exact absurd H (by simp)
                              · rw [if_neg c83] at H
                                have c83b0 : decide ((wrap64 (x75_2 - x8_7)) < (l2.length : Int)) = false := decide_eq_false c83
                                clear c83
                                by_cases c127 : t190 = 0
                                · rw [if_pos c127] at H
                                  have c127b0 : (t190 == 0) = true := beq_iff_eq.mpr c127
                                  have c127b1 : (t190 != 0) = false := bne_eq_false_iff_eq.mpr c127
                                  clear c127
                                  by_cases c128 : t192 = 0
                                  · rw [if_pos c128] at H
                                    have c128b0 : (t192 == 0) = true := beq_iff_eq.mpr c128
                                    have c128b1 : (t192 != 0) = false := bne_eq_false_iff_eq.mpr c128
                                    clear c128
                                    by_cases c129 : x75_2 < x8_7
                                    · rw [if_pos c129] at H
                                      have c129b0 : decide (x75_2 < x8_7) = true := decide_eq_true c129
                                      clear c129
                                      by_cases c130 : ((t189.toList == (((((rd_T32 l0 x75_2).f0) ++ (⟨#[46]⟩ : ByteArray)) ++ t191) ++ (⟨#[46]⟩ : ByteArray)).toList) != true) = true
                                      · rw [if_pos c130] at H
                                        have c130b0 : ((t189.toList == (((((rd_T32 l0 x75_2).f0) ++ (⟨#[46]⟩ : ByteArray)) ++ t191) ++ (⟨#[46]⟩ : ByteArray)).toList) != true) = true := c130
                                        (try (have c130b1 : decide ((t189.toList == (((((rd_T32 l0 x75_2).f0) ++ (⟨#[46]⟩ : ByteArray)) ++ t191) ++ (⟨#[46]⟩ : ByteArray)).toList) = true) = false := by simpa using c130))
                                        (try (have c130b2 : ((t189.toList == (((((rd_T32 l0 x75_2).f0) ++ (⟨#[46]⟩ : ByteArray)) ++ t191) ++ (⟨#[46]⟩ : ByteArray)).toList) == true) = false := by simpa using c130))
                                        (try (have c130b3 : ¬ ((t189.toList == (((((rd_T32 l0 x75_2).f0) ++ (⟨#[46]⟩ : ByteArray)) ++ t191) ++ (⟨#[46]⟩ : ByteArray)).toList) = true) := by simpa using c130))
                                        clear c130
                                        exact absurd ((Option.some.inj H).trans HT_.out) (by simp)
                                      · rw [if_neg c130] at H
                                        have c130b0 : ((t189.toList == (((((rd_T32 l0 x75_2).f0) ++ (⟨#[46]⟩ : ByteArray)) ++ t191) ++ (⟨#[46]⟩ : ByteArray)).toList) != true) = false := by simpa using c130
                                        (try (have c130b1 : decide ((t189.toList == (((((rd_T32 l0 x75_2).f0) ++ (⟨#[46]⟩ : ByteArray)) ++ t191) ++ (⟨#[46]⟩ : ByteArray)).toList) = true) = true := by simpa using c130))
                                        (try (have c130b2 : ((t189.toList == (((((rd_T32 l0 x75_2).f0) ++ (⟨#[46]⟩ : ByteArray)) ++ t191) ++ (⟨#[46]⟩ : ByteArray)).toList) == true) = true := by simpa using c130))
                                        clear c130
                                        by_cases c131 : (t189.toList = (((((rd_T32 l0 x75_2).f0) ++ (⟨#[46]⟩ : ByteArray)) ++ t191) ++ (⟨#[46]⟩ : ByteArray)).toList)
                                        · rw [if_pos c131] at H
                                          have c131b0 : (t189.toList == (((((rd_T32 l0 x75_2).f0) ++ (⟨#[46]⟩ : ByteArray)) ++ t191) ++ (⟨#[46]⟩ : ByteArray)).toList) = true := beq_iff_eq.mpr c131
                                          have c131b1 : (t189.toList != (((((rd_T32 l0 x75_2).f0) ++ (⟨#[46]⟩ : ByteArray)) ++ t191) ++ (⟨#[46]⟩ : ByteArray)).toList) = false := bne_eq_false_iff_eq.mpr c131
                                          clear c131
                                          have H' := Aside0.mk H
                                          clear H
                                          have p187 : 0 ≤ (x75_2 : Int) := of_decide_eq_true (by first | (with_reducible assumption) | assumption)
                                          have q187 : x75_2 < (l0.length : Int) := of_decide_eq_true (by first | (with_reducible assumption) | assumption)
                                          obtain ⟨ad187, e187, hx187_0, hx187_1⟩ := at_T32 HR0.out x75_2 p187 q187
                                          cases e187
                                          replace hx187_0 := (HB.out.cell (World.block_lt_of_cell? w _ hx187_0)).trans hx187_0
                                          replace hx187_1 := (HB.out.cell (World.block_lt_of_cell? w _ hx187_1)).trans hx187_1
                                          replace p187 := eq_true p187
                                          replace q187 := eq_true q187
                                          go_wp2_with (first | ((with_reducible refine gate_dst (N := 13) rfl ?_); (try (refine gate_guard (by rfl) ?_; dsimp only)); refine bx_ (N := 13) (cs := #[.string (⟨#[]⟩ : ByteArray), .string (⟨#[]⟩ : ByteArray)]) (t := 32) ?_; intro gb188 hg w132 hbox hb; have BK188 := Aside0.mk (hbox); have GW188 := ge_ hg; have GE188 := ge_ hg; have NB153_188 := nl_ BK153 hg; have NB188_153 := ng_ BK153 hg; replace HO_154001 := rb_ HO_154001 hb; replace HO_154002 := rb_ HO_154002 hb; replace BK153 := kb_ BK153 hb; replace HB := hb_ hb; clear hb hbox hg; have hnb133 := NB188_153.out; have hnc133 := NB153_188.out; obtain ⟨hcz134_0, hcz134_1⟩ := cl2_ BK188; obtain ⟨hfz134_0, hfz134_1⟩ := fz2_ BK188; obtain ⟨hcz135_0, hcz135_1, hcz135_2, hcz135_3, hcz135_4⟩ := cl5_ BK153; obtain ⟨hfz135_0, hfz135_1, hfz135_2, hfz135_3, hfz135_4⟩ := fz5_ BK153) | ((with_reducible refine gate_callee (f := 9) rfl ?_); refine gl_ (some 86) Tryd.func9 #[.agg #[.int .u32 t177, .slice Ao68 t178.length co68, .slice Ao69 t181.length co69, .bool t184, .int .i64 t185], .int .u32 ((x75_2) % 4294967296)] ?_; (with_reducible refine (dev_Read.calls k2 t177 _ _ t178 _ _ t181 t184 t185 ((x75_2) % 4294967296) t189 t190 _ ?side1 ?side2 ?side3 ?side4 A77.out).mono ?_); (case side1 => exact (Kd.R_reads' (rw_ HO_154001)).2.2); (case side2 => exact (Kd.R_reads' HO_154001.out).2.1); (case side3 => exact (Kd.R_reads' (rw_ HO_154002)).2.2); (case side4 => exact (Kd.R_reads' HO_154002.out).2.1); rintro e w136 ⟨rfl, hb⟩; refine ⟨_, rfl, ?_⟩; replace HO_154001 := Aside0.mk (Kd.R_below (rw_ HO_154001) hb); replace HO_154002 := Aside0.mk (Kd.R_below (rw_ HO_154002) hb); replace BK153 := Aside0.mk (blk_below (g := gb153) (o := .cells #[.int .u32 t177, .slice Ao68 t178.length co68, .slice Ao69 t181.length co69, .bool t184, .int .i64 t185] 30 (0, 0)) (bs_) hb); replace HB := hb_ hb; replace BK188 := Aside0.mk (blk_below (g := gb188) (o := .cells #[.string ((rd_T32 l0 x75_2).f0), .string ((rd_T32 l0 x75_2).f1)] 32 (0, 0)) (bs_) hb); (try clear hb); (try clear hb2); (try clear hk); (try clear hi); obtain ⟨hcz137_0, hcz137_1⟩ := cl2_ BK188; obtain ⟨hfz137_0, hfz137_1⟩ := fz2_ BK188) | ((with_reducible refine gate_callee (f := 10) rfl ?_); refine gl_ (some 93) Tryd.func10 #[.slice (some ad187) l0.length c0, .string ((rd_T32 l0 x75_2).f0)] ?_; (with_reducible refine (item_Get.calls k2 _ _ l0 ((rd_T32 l0 x75_2).f0) t191 t192 _ ?side1 ?side2 A78.out).mono ?_); (case side1 => exact cb_ HR0); (case side2 => exact HC0.out); rintro e w138 ⟨rfl, hb⟩; refine ⟨_, rfl, ?_⟩; replace HO_154001 := rb_ HO_154001 hb; replace HO_154002 := rb_ HO_154002 hb; replace BK153 := kb_ BK153 hb; replace BK188 := kb_ BK188 hb; replace HB := hb_ hb; (try clear hb); (try clear hb2); (try clear hk); (try clear hi); obtain ⟨hcz139_0, hcz139_1⟩ := cl2_ BK188; obtain ⟨hfz139_0, hfz139_1⟩ := fz2_ BK188))
                                          go_roundg k2
                                          case measure => have := HJ7.out; have := HK2.out; omega
                                          case rel => exact ⟨(wrap64 (x75_2 + 1)), (by first | rfl | (simp; done) | (simp [*]; done)), H', ⟨by have := HJ7.out; have := HK2.out; omega⟩, ⟨ra_ HO_154001⟩, ⟨ra_ HO_154002⟩, ⟨bk_ BK153⟩, ⟨bel_⟩⟩
                                        · rw [if_neg c131] at H
                                          have c131b0 : (t189.toList == (((((rd_T32 l0 x75_2).f0) ++ (⟨#[46]⟩ : ByteArray)) ++ t191) ++ (⟨#[46]⟩ : ByteArray)).toList) = false := beq_eq_false_iff_ne.mpr c131
                                          exact absurd c130b0 (by rw [c131b0]; decide)
                                    · rw [if_neg c129] at H
                                      have c129b0 : decide (x75_2 < x8_7) = false := decide_eq_false c129
                                      clear c129
                                      by_cases c149 : ((t189.toList == (((((rd_T32 l0 x75_2).f0) ++ (⟨#[46]⟩ : ByteArray)) ++ t191) ++ (⟨#[46]⟩ : ByteArray)).toList) != false) = true
                                      · rw [if_pos c149] at H
                                        have c149b0 : ((t189.toList == (((((rd_T32 l0 x75_2).f0) ++ (⟨#[46]⟩ : ByteArray)) ++ t191) ++ (⟨#[46]⟩ : ByteArray)).toList) != false) = true := c149
                                        (try (have c149b1 : decide ((t189.toList == (((((rd_T32 l0 x75_2).f0) ++ (⟨#[46]⟩ : ByteArray)) ++ t191) ++ (⟨#[46]⟩ : ByteArray)).toList) = false) = false := by simpa using c149))
                                        (try (have c149b2 : ((t189.toList == (((((rd_T32 l0 x75_2).f0) ++ (⟨#[46]⟩ : ByteArray)) ++ t191) ++ (⟨#[46]⟩ : ByteArray)).toList) == false) = false := by simpa using c149))
                                        (try (have c149b3 : ¬ ((t189.toList == (((((rd_T32 l0 x75_2).f0) ++ (⟨#[46]⟩ : ByteArray)) ++ t191) ++ (⟨#[46]⟩ : ByteArray)).toList) = false) := by simpa using c149))
                                        clear c149
                                        exact absurd ((Option.some.inj H).trans HT_.out) (by simp)
                                      · rw [if_neg c149] at H
                                        have c149b0 : ((t189.toList == (((((rd_T32 l0 x75_2).f0) ++ (⟨#[46]⟩ : ByteArray)) ++ t191) ++ (⟨#[46]⟩ : ByteArray)).toList) != false) = false := by simpa using c149
                                        (try (have c149b1 : decide ((t189.toList == (((((rd_T32 l0 x75_2).f0) ++ (⟨#[46]⟩ : ByteArray)) ++ t191) ++ (⟨#[46]⟩ : ByteArray)).toList) = false) = true := by simpa using c149))
                                        (try (have c149b2 : ((t189.toList == (((((rd_T32 l0 x75_2).f0) ++ (⟨#[46]⟩ : ByteArray)) ++ t191) ++ (⟨#[46]⟩ : ByteArray)).toList) == false) = true := by simpa using c149))
                                        clear c149
                                        by_cases c150 : (t189.toList = (((((rd_T32 l0 x75_2).f0) ++ (⟨#[46]⟩ : ByteArray)) ++ t191) ++ (⟨#[46]⟩ : ByteArray)).toList)
                                        · rw [if_pos c150] at H
                                          have c150b0 : (t189.toList == (((((rd_T32 l0 x75_2).f0) ++ (⟨#[46]⟩ : ByteArray)) ++ t191) ++ (⟨#[46]⟩ : ByteArray)).toList) = true := beq_iff_eq.mpr c150
                                          exact absurd c149b0 (by rw [c150b0]; decide)
                                        · rw [if_neg c150] at H
                                          have c150b0 : (t189.toList == (((((rd_T32 l0 x75_2).f0) ++ (⟨#[46]⟩ : ByteArray)) ++ t191) ++ (⟨#[46]⟩ : ByteArray)).toList) = false := beq_eq_false_iff_ne.mpr c150
                                          have c150b1 : (t189.toList != (((((rd_T32 l0 x75_2).f0) ++ (⟨#[46]⟩ : ByteArray)) ++ t191) ++ (⟨#[46]⟩ : ByteArray)).toList) = true := bne_iff_ne.mpr c150
                                          by_cases c159 : t189.toList = ([] : List UInt8)
                                          · rw [if_pos c159] at H
                                            have c159b0 : (t189.toList == ([] : List UInt8)) = true := beq_iff_eq.mpr c159
                                            have c159b1 : (t189.toList != ([] : List UInt8)) = false := bne_eq_false_iff_eq.mpr c159
                                            clear c159
                                            have H' := Aside0.mk H
                                            clear H
                                            have p187 : 0 ≤ (x75_2 : Int) := of_decide_eq_true (by first | (with_reducible assumption) | assumption)
                                            have q187 : x75_2 < (l0.length : Int) := of_decide_eq_true (by first | (with_reducible assumption) | assumption)
                                            obtain ⟨ad187, e187, hx187_0, hx187_1⟩ := at_T32 HR0.out x75_2 p187 q187
                                            cases e187
                                            replace hx187_0 := (HB.out.cell (World.block_lt_of_cell? w _ hx187_0)).trans hx187_0
                                            replace hx187_1 := (HB.out.cell (World.block_lt_of_cell? w _ hx187_1)).trans hx187_1
                                            replace p187 := eq_true p187
                                            replace q187 := eq_true q187
                                            go_wp2_with (first | ((with_reducible refine gate_dst (N := 13) rfl ?_); (try (refine gate_guard (by rfl) ?_; dsimp only)); refine bx_ (N := 13) (cs := #[.string (⟨#[]⟩ : ByteArray), .string (⟨#[]⟩ : ByteArray)]) (t := 32) ?_; intro gb188 hg w160 hbox hb; have BK188 := Aside0.mk (hbox); have GW188 := ge_ hg; have GE188 := ge_ hg; have NB153_188 := nl_ BK153 hg; have NB188_153 := ng_ BK153 hg; replace HO_154001 := rb_ HO_154001 hb; replace HO_154002 := rb_ HO_154002 hb; replace BK153 := kb_ BK153 hb; replace HB := hb_ hb; clear hb hbox hg; have hnb161 := NB188_153.out; have hnc161 := NB153_188.out; obtain ⟨hcz162_0, hcz162_1⟩ := cl2_ BK188; obtain ⟨hfz162_0, hfz162_1⟩ := fz2_ BK188; obtain ⟨hcz163_0, hcz163_1, hcz163_2, hcz163_3, hcz163_4⟩ := cl5_ BK153; obtain ⟨hfz163_0, hfz163_1, hfz163_2, hfz163_3, hfz163_4⟩ := fz5_ BK153) | ((with_reducible refine gate_callee (f := 9) rfl ?_); refine gl_ (some 86) Tryd.func9 #[.agg #[.int .u32 t177, .slice Ao68 t178.length co68, .slice Ao69 t181.length co69, .bool t184, .int .i64 t185], .int .u32 ((x75_2) % 4294967296)] ?_; (with_reducible refine (dev_Read.calls k2 t177 _ _ t178 _ _ t181 t184 t185 ((x75_2) % 4294967296) t189 t190 _ ?side1 ?side2 ?side3 ?side4 A77.out).mono ?_); (case side1 => exact (Kd.R_reads' (rw_ HO_154001)).2.2); (case side2 => exact (Kd.R_reads' HO_154001.out).2.1); (case side3 => exact (Kd.R_reads' (rw_ HO_154002)).2.2); (case side4 => exact (Kd.R_reads' HO_154002.out).2.1); rintro e w164 ⟨rfl, hb⟩; refine ⟨_, rfl, ?_⟩; replace HO_154001 := Aside0.mk (Kd.R_below (rw_ HO_154001) hb); replace HO_154002 := Aside0.mk (Kd.R_below (rw_ HO_154002) hb); replace BK153 := Aside0.mk (blk_below (g := gb153) (o := .cells #[.int .u32 t177, .slice Ao68 t178.length co68, .slice Ao69 t181.length co69, .bool t184, .int .i64 t185] 30 (0, 0)) (bs_) hb); replace HB := hb_ hb; replace BK188 := Aside0.mk (blk_below (g := gb188) (o := .cells #[.string ((rd_T32 l0 x75_2).f0), .string ((rd_T32 l0 x75_2).f1)] 32 (0, 0)) (bs_) hb); (try clear hb); (try clear hb2); (try clear hk); (try clear hi); obtain ⟨hcz165_0, hcz165_1⟩ := cl2_ BK188; obtain ⟨hfz165_0, hfz165_1⟩ := fz2_ BK188) | ((with_reducible refine gate_callee (f := 10) rfl ?_); refine gl_ (some 93) Tryd.func10 #[.slice (some ad187) l0.length c0, .string ((rd_T32 l0 x75_2).f0)] ?_; (with_reducible refine (item_Get.calls k2 _ _ l0 ((rd_T32 l0 x75_2).f0) t191 t192 _ ?side1 ?side2 A78.out).mono ?_); (case side1 => exact cb_ HR0); (case side2 => exact HC0.out); rintro e w166 ⟨rfl, hb⟩; refine ⟨_, rfl, ?_⟩; replace HO_154001 := rb_ HO_154001 hb; replace HO_154002 := rb_ HO_154002 hb; replace BK153 := kb_ BK153 hb; replace BK188 := kb_ BK188 hb; replace HB := hb_ hb; (try clear hb); (try clear hb2); (try clear hk); (try clear hi); obtain ⟨hcz167_0, hcz167_1⟩ := cl2_ BK188; obtain ⟨hfz167_0, hfz167_1⟩ := fz2_ BK188))
                                            go_roundg k2
                                            case measure => have := HJ7.out; have := HK2.out; omega
                                            case rel => exact ⟨(wrap64 (x75_2 + 1)), (by first | rfl | (simp; done) | (simp [*]; done)), H', ⟨by have := HJ7.out; have := HK2.out; omega⟩, ⟨ra_ HO_154001⟩, ⟨ra_ HO_154002⟩, ⟨bk_ BK153⟩, ⟨bel_⟩⟩
                                          · rw [if_neg c159] at H
                                            have c159b0 : (t189.toList == ([] : List UInt8)) = false := beq_eq_false_iff_ne.mpr c159
                                            have c159b1 : (t189.toList != ([] : List UInt8)) = true := bne_iff_ne.mpr c159
                                            exact absurd ((Option.some.inj H).trans HT_.out) (by simp)
                                  · rw [if_neg c128] at H
                                    have c128b0 : (t192 == 0) = false := beq_eq_false_iff_ne.mpr c128
                                    have c128b1 : (t192 != 0) = true := bne_iff_ne.mpr c128
                                    exact absurd ((Option.some.inj H).trans HT_.out) (by simp)
                                · rw [if_neg c127] at H
                                  have c127b0 : (t190 == 0) = false := beq_eq_false_iff_ne.mpr c127
                                  have c127b1 : (t190 != 0) = true := bne_iff_ne.mpr c127
                                  exact absurd ((Option.some.inj H).trans HT_.out) (by simp)
                            · rw [if_neg c82] at H
                              have c82b0 : decide (x8_7 ≤ x75_2) = false := decide_eq_false c82
                              clear c82
                              by_cases c168 : t190 = 0
                              · rw [if_pos c168] at H
                                have c168b0 : (t190 == 0) = true := beq_iff_eq.mpr c168
                                have c168b1 : (t190 != 0) = false := bne_eq_false_iff_eq.mpr c168
                                clear c168
                                by_cases c169 : t192 = 0
                                · rw [if_pos c169] at H
                                  have c169b0 : (t192 == 0) = true := beq_iff_eq.mpr c169
                                  have c169b1 : (t192 != 0) = false := bne_eq_false_iff_eq.mpr c169
                                  clear c169
                                  by_cases c170 : x75_2 < x8_7
                                  · rw [if_pos c170] at H
                                    have c170b0 : decide (x75_2 < x8_7) = true := decide_eq_true c170
                                    clear c170
                                    by_cases c171 : ((t189.toList == (((((rd_T32 l0 x75_2).f0) ++ (⟨#[46]⟩ : ByteArray)) ++ t191) ++ (⟨#[46]⟩ : ByteArray)).toList) != true) = true
                                    · rw [if_pos c171] at H
                                      have c171b0 : ((t189.toList == (((((rd_T32 l0 x75_2).f0) ++ (⟨#[46]⟩ : ByteArray)) ++ t191) ++ (⟨#[46]⟩ : ByteArray)).toList) != true) = true := c171
                                      (try (have c171b1 : decide ((t189.toList == (((((rd_T32 l0 x75_2).f0) ++ (⟨#[46]⟩ : ByteArray)) ++ t191) ++ (⟨#[46]⟩ : ByteArray)).toList) = true) = false := by simpa using c171))
                                      (try (have c171b2 : ((t189.toList == (((((rd_T32 l0 x75_2).f0) ++ (⟨#[46]⟩ : ByteArray)) ++ t191) ++ (⟨#[46]⟩ : ByteArray)).toList) == true) = false := by simpa using c171))
                                      (try (have c171b3 : ¬ ((t189.toList == (((((rd_T32 l0 x75_2).f0) ++ (⟨#[46]⟩ : ByteArray)) ++ t191) ++ (⟨#[46]⟩ : ByteArray)).toList) = true) := by simpa using c171))
                                      clear c171
                                      exact absurd ((Option.some.inj H).trans HT_.out) (by simp)
                                    · rw [if_neg c171] at H
                                      have c171b0 : ((t189.toList == (((((rd_T32 l0 x75_2).f0) ++ (⟨#[46]⟩ : ByteArray)) ++ t191) ++ (⟨#[46]⟩ : ByteArray)).toList) != true) = false := by simpa using c171
                                      (try (have c171b1 : decide ((t189.toList == (((((rd_T32 l0 x75_2).f0) ++ (⟨#[46]⟩ : ByteArray)) ++ t191) ++ (⟨#[46]⟩ : ByteArray)).toList) = true) = true := by simpa using c171))
                                      (try (have c171b2 : ((t189.toList == (((((rd_T32 l0 x75_2).f0) ++ (⟨#[46]⟩ : ByteArray)) ++ t191) ++ (⟨#[46]⟩ : ByteArray)).toList) == true) = true := by simpa using c171))
                                      clear c171
                                      by_cases c172 : (t189.toList = (((((rd_T32 l0 x75_2).f0) ++ (⟨#[46]⟩ : ByteArray)) ++ t191) ++ (⟨#[46]⟩ : ByteArray)).toList)
                                      · rw [if_pos c172] at H
                                        have c172b0 : (t189.toList == (((((rd_T32 l0 x75_2).f0) ++ (⟨#[46]⟩ : ByteArray)) ++ t191) ++ (⟨#[46]⟩ : ByteArray)).toList) = true := beq_iff_eq.mpr c172
                                        have c172b1 : (t189.toList != (((((rd_T32 l0 x75_2).f0) ++ (⟨#[46]⟩ : ByteArray)) ++ t191) ++ (⟨#[46]⟩ : ByteArray)).toList) = false := bne_eq_false_iff_eq.mpr c172
                                        clear c172
                                        have H' := Aside0.mk H
                                        clear H
                                        have p187 : 0 ≤ (x75_2 : Int) := of_decide_eq_true (by first | (with_reducible assumption) | assumption)
                                        have q187 : x75_2 < (l0.length : Int) := of_decide_eq_true (by first | (with_reducible assumption) | assumption)
                                        obtain ⟨ad187, e187, hx187_0, hx187_1⟩ := at_T32 HR0.out x75_2 p187 q187
                                        cases e187
                                        replace hx187_0 := (HB.out.cell (World.block_lt_of_cell? w _ hx187_0)).trans hx187_0
                                        replace hx187_1 := (HB.out.cell (World.block_lt_of_cell? w _ hx187_1)).trans hx187_1
                                        replace p187 := eq_true p187
                                        replace q187 := eq_true q187
                                        go_wp2_with (first | ((with_reducible refine gate_dst (N := 13) rfl ?_); (try (refine gate_guard (by rfl) ?_; dsimp only)); refine bx_ (N := 13) (cs := #[.string (⟨#[]⟩ : ByteArray), .string (⟨#[]⟩ : ByteArray)]) (t := 32) ?_; intro gb188 hg w173 hbox hb; have BK188 := Aside0.mk (hbox); have GW188 := ge_ hg; have GE188 := ge_ hg; have NB153_188 := nl_ BK153 hg; have NB188_153 := ng_ BK153 hg; replace HO_154001 := rb_ HO_154001 hb; replace HO_154002 := rb_ HO_154002 hb; replace BK153 := kb_ BK153 hb; replace HB := hb_ hb; clear hb hbox hg; have hnb174 := NB188_153.out; have hnc174 := NB153_188.out; obtain ⟨hcz175_0, hcz175_1⟩ := cl2_ BK188; obtain ⟨hfz175_0, hfz175_1⟩ := fz2_ BK188; obtain ⟨hcz176_0, hcz176_1, hcz176_2, hcz176_3, hcz176_4⟩ := cl5_ BK153; obtain ⟨hfz176_0, hfz176_1, hfz176_2, hfz176_3, hfz176_4⟩ := fz5_ BK153) | ((with_reducible refine gate_callee (f := 9) rfl ?_); refine gl_ (some 86) Tryd.func9 #[.agg #[.int .u32 t177, .slice Ao68 t178.length co68, .slice Ao69 t181.length co69, .bool t184, .int .i64 t185], .int .u32 ((x75_2) % 4294967296)] ?_; (with_reducible refine (dev_Read.calls k2 t177 _ _ t178 _ _ t181 t184 t185 ((x75_2) % 4294967296) t189 t190 _ ?side1 ?side2 ?side3 ?side4 A77.out).mono ?_); (case side1 => exact (Kd.R_reads' (rw_ HO_154001)).2.2); (case side2 => exact (Kd.R_reads' HO_154001.out).2.1); (case side3 => exact (Kd.R_reads' (rw_ HO_154002)).2.2); (case side4 => exact (Kd.R_reads' HO_154002.out).2.1); rintro e w177 ⟨rfl, hb⟩; refine ⟨_, rfl, ?_⟩; replace HO_154001 := Aside0.mk (Kd.R_below (rw_ HO_154001) hb); replace HO_154002 := Aside0.mk (Kd.R_below (rw_ HO_154002) hb); replace BK153 := Aside0.mk (blk_below (g := gb153) (o := .cells #[.int .u32 t177, .slice Ao68 t178.length co68, .slice Ao69 t181.length co69, .bool t184, .int .i64 t185] 30 (0, 0)) (bs_) hb); replace HB := hb_ hb; replace BK188 := Aside0.mk (blk_below (g := gb188) (o := .cells #[.string ((rd_T32 l0 x75_2).f0), .string ((rd_T32 l0 x75_2).f1)] 32 (0, 0)) (bs_) hb); (try clear hb); (try clear hb2); (try clear hk); (try clear hi); obtain ⟨hcz178_0, hcz178_1⟩ := cl2_ BK188; obtain ⟨hfz178_0, hfz178_1⟩ := fz2_ BK188) | ((with_reducible refine gate_callee (f := 10) rfl ?_); refine gl_ (some 93) Tryd.func10 #[.slice (some ad187) l0.length c0, .string ((rd_T32 l0 x75_2).f0)] ?_; (with_reducible refine (item_Get.calls k2 _ _ l0 ((rd_T32 l0 x75_2).f0) t191 t192 _ ?side1 ?side2 A78.out).mono ?_); (case side1 => exact cb_ HR0); (case side2 => exact HC0.out); rintro e w179 ⟨rfl, hb⟩; refine ⟨_, rfl, ?_⟩; replace HO_154001 := rb_ HO_154001 hb; replace HO_154002 := rb_ HO_154002 hb; replace BK153 := kb_ BK153 hb; replace BK188 := kb_ BK188 hb; replace HB := hb_ hb; (try clear hb); (try clear hb2); (try clear hk); (try clear hi); obtain ⟨hcz180_0, hcz180_1⟩ := cl2_ BK188; obtain ⟨hfz180_0, hfz180_1⟩ := fz2_ BK188))
                                        go_roundg k2
                                        case measure => have := HJ7.out; have := HK2.out; omega
                                        case rel => exact ⟨(wrap64 (x75_2 + 1)), (by first | rfl | (simp; done) | (simp [*]; done)), H', ⟨by have := HJ7.out; have := HK2.out; omega⟩, ⟨ra_ HO_154001⟩, ⟨ra_ HO_154002⟩, ⟨bk_ BK153⟩, ⟨bel_⟩⟩
                                      · rw [if_neg c172] at H
                                        have c172b0 : (t189.toList == (((((rd_T32 l0 x75_2).f0) ++ (⟨#[46]⟩ : ByteArray)) ++ t191) ++ (⟨#[46]⟩ : ByteArray)).toList) = false := beq_eq_false_iff_ne.mpr c172
                                        exact absurd c171b0 (by rw [c172b0]; decide)
                                  · rw [if_neg c170] at H
                                    have c170b0 : decide (x75_2 < x8_7) = false := decide_eq_false c170
                                    clear c170
                                    by_cases c190 : ((t189.toList == (((((rd_T32 l0 x75_2).f0) ++ (⟨#[46]⟩ : ByteArray)) ++ t191) ++ (⟨#[46]⟩ : ByteArray)).toList) != false) = true
                                    · rw [if_pos c190] at H
                                      have c190b0 : ((t189.toList == (((((rd_T32 l0 x75_2).f0) ++ (⟨#[46]⟩ : ByteArray)) ++ t191) ++ (⟨#[46]⟩ : ByteArray)).toList) != false) = true := c190
                                      (try (have c190b1 : decide ((t189.toList == (((((rd_T32 l0 x75_2).f0) ++ (⟨#[46]⟩ : ByteArray)) ++ t191) ++ (⟨#[46]⟩ : ByteArray)).toList) = false) = false := by simpa using c190))
                                      (try (have c190b2 : ((t189.toList == (((((rd_T32 l0 x75_2).f0) ++ (⟨#[46]⟩ : ByteArray)) ++ t191) ++ (⟨#[46]⟩ : ByteArray)).toList) == false) = false := by simpa using c190))
                                      (try (have c190b3 : ¬ ((t189.toList == (((((rd_T32 l0 x75_2).f0) ++ (⟨#[46]⟩ : ByteArray)) ++ t191) ++ (⟨#[46]⟩ : ByteArray)).toList) = false) := by simpa using c190))
                                      clear c190
                                      exact absurd ((Option.some.inj H).trans HT_.out) (by simp)
                                    · rw [if_neg c190] at H
                                      have c190b0 : ((t189.toList == (((((rd_T32 l0 x75_2).f0) ++ (⟨#[46]⟩ : ByteArray)) ++ t191) ++ (⟨#[46]⟩ : ByteArray)).toList) != false) = false := by simpa using c190
                                      (try (have c190b1 : decide ((t189.toList == (((((rd_T32 l0 x75_2).f0) ++ (⟨#[46]⟩ : ByteArray)) ++ t191) ++ (⟨#[46]⟩ : ByteArray)).toList) = false) = true := by simpa using c190))
                                      (try (have c190b2 : ((t189.toList == (((((rd_T32 l0 x75_2).f0) ++ (⟨#[46]⟩ : ByteArray)) ++ t191) ++ (⟨#[46]⟩ : ByteArray)).toList) == false) = true := by simpa using c190))
                                      clear c190
                                      by_cases c191 : (t189.toList = (((((rd_T32 l0 x75_2).f0) ++ (⟨#[46]⟩ : ByteArray)) ++ t191) ++ (⟨#[46]⟩ : ByteArray)).toList)
                                      · rw [if_pos c191] at H
                                        have c191b0 : (t189.toList == (((((rd_T32 l0 x75_2).f0) ++ (⟨#[46]⟩ : ByteArray)) ++ t191) ++ (⟨#[46]⟩ : ByteArray)).toList) = true := beq_iff_eq.mpr c191
                                        exact absurd c190b0 (by rw [c191b0]; decide)
                                      · rw [if_neg c191] at H
                                        have c191b0 : (t189.toList == (((((rd_T32 l0 x75_2).f0) ++ (⟨#[46]⟩ : ByteArray)) ++ t191) ++ (⟨#[46]⟩ : ByteArray)).toList) = false := beq_eq_false_iff_ne.mpr c191
                                        have c191b1 : (t189.toList != (((((rd_T32 l0 x75_2).f0) ++ (⟨#[46]⟩ : ByteArray)) ++ t191) ++ (⟨#[46]⟩ : ByteArray)).toList) = true := bne_iff_ne.mpr c191
                                        by_cases c200 : t189.toList = ([] : List UInt8)
                                        · rw [if_pos c200] at H
                                          have c200b0 : (t189.toList == ([] : List UInt8)) = true := beq_iff_eq.mpr c200
                                          have c200b1 : (t189.toList != ([] : List UInt8)) = false := bne_eq_false_iff_eq.mpr c200
                                          clear c200
                                          have H' := Aside0.mk H
                                          clear H
                                          have p187 : 0 ≤ (x75_2 : Int) := of_decide_eq_true (by first | (with_reducible assumption) | assumption)
                                          have q187 : x75_2 < (l0.length : Int) := of_decide_eq_true (by first | (with_reducible assumption) | assumption)
                                          obtain ⟨ad187, e187, hx187_0, hx187_1⟩ := at_T32 HR0.out x75_2 p187 q187
                                          cases e187
                                          replace hx187_0 := (HB.out.cell (World.block_lt_of_cell? w _ hx187_0)).trans hx187_0
                                          replace hx187_1 := (HB.out.cell (World.block_lt_of_cell? w _ hx187_1)).trans hx187_1
                                          replace p187 := eq_true p187
                                          replace q187 := eq_true q187
                                          go_wp2_with (first | ((with_reducible refine gate_dst (N := 13) rfl ?_); (try (refine gate_guard (by rfl) ?_; dsimp only)); refine bx_ (N := 13) (cs := #[.string (⟨#[]⟩ : ByteArray), .string (⟨#[]⟩ : ByteArray)]) (t := 32) ?_; intro gb188 hg w201 hbox hb; have BK188 := Aside0.mk (hbox); have GW188 := ge_ hg; have GE188 := ge_ hg; have NB153_188 := nl_ BK153 hg; have NB188_153 := ng_ BK153 hg; replace HO_154001 := rb_ HO_154001 hb; replace HO_154002 := rb_ HO_154002 hb; replace BK153 := kb_ BK153 hb; replace HB := hb_ hb; clear hb hbox hg; have hnb202 := NB188_153.out; have hnc202 := NB153_188.out; obtain ⟨hcz203_0, hcz203_1⟩ := cl2_ BK188; obtain ⟨hfz203_0, hfz203_1⟩ := fz2_ BK188; obtain ⟨hcz204_0, hcz204_1, hcz204_2, hcz204_3, hcz204_4⟩ := cl5_ BK153; obtain ⟨hfz204_0, hfz204_1, hfz204_2, hfz204_3, hfz204_4⟩ := fz5_ BK153) | ((with_reducible refine gate_callee (f := 9) rfl ?_); refine gl_ (some 86) Tryd.func9 #[.agg #[.int .u32 t177, .slice Ao68 t178.length co68, .slice Ao69 t181.length co69, .bool t184, .int .i64 t185], .int .u32 ((x75_2) % 4294967296)] ?_; (with_reducible refine (dev_Read.calls k2 t177 _ _ t178 _ _ t181 t184 t185 ((x75_2) % 4294967296) t189 t190 _ ?side1 ?side2 ?side3 ?side4 A77.out).mono ?_); (case side1 => exact (Kd.R_reads' (rw_ HO_154001)).2.2); (case side2 => exact (Kd.R_reads' HO_154001.out).2.1); (case side3 => exact (Kd.R_reads' (rw_ HO_154002)).2.2); (case side4 => exact (Kd.R_reads' HO_154002.out).2.1); rintro e w205 ⟨rfl, hb⟩; refine ⟨_, rfl, ?_⟩; replace HO_154001 := Aside0.mk (Kd.R_below (rw_ HO_154001) hb); replace HO_154002 := Aside0.mk (Kd.R_below (rw_ HO_154002) hb); replace BK153 := Aside0.mk (blk_below (g := gb153) (o := .cells #[.int .u32 t177, .slice Ao68 t178.length co68, .slice Ao69 t181.length co69, .bool t184, .int .i64 t185] 30 (0, 0)) (bs_) hb); replace HB := hb_ hb; replace BK188 := Aside0.mk (blk_below (g := gb188) (o := .cells #[.string ((rd_T32 l0 x75_2).f0), .string ((rd_T32 l0 x75_2).f1)] 32 (0, 0)) (bs_) hb); (try clear hb); (try clear hb2); (try clear hk); (try clear hi); obtain ⟨hcz206_0, hcz206_1⟩ := cl2_ BK188; obtain ⟨hfz206_0, hfz206_1⟩ := fz2_ BK188) | ((with_reducible refine gate_callee (f := 10) rfl ?_); refine gl_ (some 93) Tryd.func10 #[.slice (some ad187) l0.length c0, .string ((rd_T32 l0 x75_2).f0)] ?_; (with_reducible refine (item_Get.calls k2 _ _ l0 ((rd_T32 l0 x75_2).f0) t191 t192 _ ?side1 ?side2 A78.out).mono ?_); (case side1 => exact cb_ HR0); (case side2 => exact HC0.out); rintro e w207 ⟨rfl, hb⟩; refine ⟨_, rfl, ?_⟩; replace HO_154001 := rb_ HO_154001 hb; replace HO_154002 := rb_ HO_154002 hb; replace BK153 := kb_ BK153 hb; replace BK188 := kb_ BK188 hb; replace HB := hb_ hb; (try clear hb); (try clear hb2); (try clear hk); (try clear hi); obtain ⟨hcz208_0, hcz208_1⟩ := cl2_ BK188; obtain ⟨hfz208_0, hfz208_1⟩ := fz2_ BK188))
                                          go_roundg k2
                                          case measure => have := HJ7.out; have := HK2.out; omega
                                          case rel => exact ⟨(wrap64 (x75_2 + 1)), (by first | rfl | (simp; done) | (simp [*]; done)), H', ⟨by have := HJ7.out; have := HK2.out; omega⟩, ⟨ra_ HO_154001⟩, ⟨ra_ HO_154002⟩, ⟨bk_ BK153⟩, ⟨bel_⟩⟩
                                        · rw [if_neg c200] at H
                                          have c200b0 : (t189.toList == ([] : List UInt8)) = false := beq_eq_false_iff_ne.mpr c200
                                          have c200b1 : (t189.toList != ([] : List UInt8)) = true := bne_iff_ne.mpr c200
                                          exact absurd ((Option.some.inj H).trans HT_.out) (by simp)
                                · rw [if_neg c169] at H
                                  have c169b0 : (t192 == 0) = false := beq_eq_false_iff_ne.mpr c169
                                  have c169b1 : (t192 != 0) = true := bne_iff_ne.mpr c169
                                  exact absurd ((Option.some.inj H).trans HT_.out) (by simp)
                              · rw [if_neg c168] at H
                                have c168b0 : (t190 == 0) = false := beq_eq_false_iff_ne.mpr c168
                                have c168b1 : (t190 != 0) = true := bne_iff_ne.mpr c168
                                exact absurd ((Option.some.inj H).trans HT_.out) (by simp)
                          · rw [if_neg c81] at H
                            exact absurd H (by simp)
                        · rw [if_neg c80] at H
                          exact absurd H (by simp)
                      · rw [if_neg c79] at H
                        exact absurd H (by simp)
                  · rw [if_neg c72] at H
                    exact absurd H (by simp)
                · rw [if_neg c71] at H
                  exact absurd H (by simp)
              · rw [if_neg c70] at H
                have c70b0 : decide (x75_2 < (l0.length : Int)) = false := decide_eq_false c70
                clear c70
                obtain rfl := Option.some.inj H
                go_wp2
                go_ret
                exact ⟨by first | rfl | (simp [errW_none, errW_some] <;> rfl) | (simp [*, errW_none, errW_some] <;> rfl), bel_⟩
    · rw [if_neg c7] at H
      have c7b0 : (t152 == 0) = false := beq_eq_false_iff_ne.mpr c7
      have c7b1 : (t152 != 0) = true := bne_iff_ne.mpr c7
      obtain rfl := Option.some.inj H
      go_enter Tryd.func3, Tryd.ntmps3
      go_wp2_with (first | ((with_reducible refine gate_callee (f := 4) rfl ?_); refine gl_ (some 20) Tryd.func4 #[] ?_; (with_reducible refine (cambiumtop_begins.calls  true _ A4.out).mono ?_); rintro e w209 ⟨rfl, hb⟩; refine ⟨_, rfl, ?_⟩; replace HB := hb_ hb; (try clear hb); (try clear hb2); (try clear hk); (try clear hi)) | ((with_reducible refine gate_callee (f := 5) rfl ?_); refine gl_ (some 23) Tryd.func5 #[.slice A0 l0.length c0] ?_; (with_reducible refine (item_Check.calls k _ _ l0 t152 _ ?side1 ?side2 A6.out).mono ?_); (case side1 => exact cb_ HR0); (case side2 => exact HC0.out); rintro e w210 ⟨rfl, hb⟩; refine ⟨_, rfl, ?_⟩; replace HB := hb_ hb; (try clear hb); (try clear hb2); (try clear hk); (try clear hi)))
      go_ret
      exact ⟨by first | rfl | (simp [errW_none, errW_some] <;> rfl) | (simp [*, errW_none, errW_some] <;> rfl), bel_⟩
  · replace c5 := Bool.eq_false_iff.mpr c5
    subst c5
    have H1 : (some false) = some r := by rw [if_neg (show ¬ (false = true) by decide)] at H; exact H
    clear H
    have H := H1
    clear H1
    exact absurd ((Option.some.inj H).trans HT_.out) (by simp)

end Go.Proofs.YthbljhmjppjcjaaDoor.Z
end

section
/- How a round function comes to its answer: the steps. -/
namespace Go.Proofs.YthbljhmjppjcjaaDoor.Z
open Go.RowKit Go.Proofs.YthbljhmjppjcjaaDoorW.PrintWords Go.Proofs.YthbljhmjppjcjaaDoorW.PrintLast
set_option linter.unusedVariables false
theorem Ev.val {α : Type} {g : Nat → Option α} {a b : α} (h : Ev g a) (e : a = b) : Ev g b := e ▸ h
theorem Ev.const {α : Type} {x : Option α} {r : α} (h : x = some r) : Ev (fun _ => x) r := ⟨0, fun _ _ => h⟩
theorem Ev.ifp {α : Type} {c : Prop} [Decidable c] {f g : Nat → Option α} {r : α} (hc : c) (h : Ev f r) : Ev (fun k => if c then f k else g k) r := Ev.congr (fun k => if_pos hc) h
theorem Ev.ifn {α : Type} {c : Prop} [Decidable c] {f g : Nat → Option α} {r : α} (hc : ¬ c) (h : Ev g r) : Ev (fun k => if c then f k else g k) r := Ev.congr (fun k => if_neg hc) h
theorem Ev.ite {α : Type} {c : Prop} [Decidable c] {f g : Nat → Option α} {r : α} (h : c → Ev f r) (h2 : ¬ c → Ev g r) : Ev (fun k => if c then f k else g k) r := by
  by_cases hc : c
  · exact Ev.ifp hc (h hc)
  · exact Ev.ifn hc (h2 hc)
theorem Ev.bindc {α β : Type} {x : Option α} {f : Nat → α → Option β} {a : α} {r : β} (h : x = some a) (k : Ev (fun n => f n a) r) : Ev (fun n => x.bind (f n)) r := Ev.bind (Ev.const h) k
theorem Ev.both {α : Type} {g : Nat → Option α} {a b : α} (h : Ev g a) (h2 : Ev g b) : a = b := by
  obtain ⟨K, h⟩ := h
  obtain ⟨K2, h2⟩ := h2
  have e1 := h (max K K2) (by omega)
  have e2 := h2 (max K K2) (by omega)
  rw [e1] at e2
  exact Option.some.inj e2
theorem w64 {i : Int} (h0 : -9223372036854775808 ≤ i) (h1 : i ≤ 9223372036854775807) : wrap64 i = i := by unfold wrap64; omega
theorem bytes_inj {a b : ByteArray} (h : a.toList = b.toList) : a = b := by
  rw [ByteArray.toList_eq, ByteArray.toList_eq] at h
  cases a; cases b; simp_all
end Go.Proofs.YthbljhmjppjcjaaDoor.Z
end

section
/- Blocks of a device as lists: what is right, what is put, what is read. -/
namespace Go.Proofs.YthbljhmjppjcjaaDoor.Z
open Go.RowKit Go.Proofs.YthbljhmjppjcjaaDoorW.PrintWords Go.Proofs.YthbljhmjppjcjaaDoorW.PrintLast
set_option linter.unusedVariables false
abbrev Bk := S60
theorem size_zero {a : ByteArray} (h : a.size = 0) : a = ⟨#[]⟩ := by
  obtain ⟨l⟩ := a
  have : l = #[] := Array.eq_empty_of_size_eq_zero h
  rw [this]
theorem toList_nil {a : ByteArray} : a.toList = [] ↔ a.size = 0 := by
  rw [ByteArray.toList_eq]
  constructor
  · intro h
    have := congrArg List.length h
    simpa using this
  · intro h
    rw [size_zero h]
theorem trimL_idem (l : List UInt8) : trimL (trimL l) = trimL l := by
  unfold trimL
  rw [List.reverse_reverse]
  congr 1
  generalize l.reverse = m
  induction m with
  | nil => rfl
  | cons b m ih =>
    rw [List.dropWhile_cons]
    by_cases h : (b == 0) = true
    · rw [if_pos h]; exact ih
    · rw [if_neg h, List.dropWhile_cons, if_neg h]
theorem trimL_length (l : List UInt8) : (trimL l).length ≤ l.length := by
  unfold trimL
  rw [List.length_reverse]
  have := (List.dropWhile_sublist (p := (· == 0)) (l := l.reverse)).length_le
  rw [List.length_reverse] at this
  exact this
theorem trimB_size (a : ByteArray) : (trimB a).size ≤ a.size := by
  unfold trimB ByteArray.size
  have := trimL_length a.data.toList
  simpa using this
theorem trimB_idem (a : ByteArray) : trimB (trimB a) = trimB a := by
  unfold trimB
  simp only [trimL_idem]
def okB (s : Int) (x : Bk) : Prop := 0 ≤ x.f0 ∧ x.f0 < s ∧ x.f1.size ≤ 512 ∧ trimB x.f1 = x.f1
def Asc (l : List Bk) : Prop := l.Pairwise (fun x y => x.f0 < y.f0)
def okBl (s : Int) (bl : List Bk) : Prop := Asc bl ∧ ∀ x ∈ bl, okB s x ∧ x.f1.size ≠ 0
def okDev (s : Int) (bl wl : List Bk) : Prop := 16 ≤ s ∧ s ≤ 65536 ∧ wl.length ≤ 16384 ∧ okBl s bl ∧ ∀ x ∈ wl, okB s x
def cell (x : Bk) : List Bk := if x.f1.size = 0 then [] else [x]
def putL (bl : List Bk) (x : Bk) : List Bk := bl.filter (fun y => decide (y.f0 < x.f0)) ++ cell x ++ bl.filter (fun y => decide (x.f0 < y.f0))
def putsL (bl wl : List Bk) : List Bk := wl.foldl putL bl
def has (bl : List Bk) (n : Int) : ByteArray := match bl.find? (fun x => x.f0 == n) with | some x => x.f1 | none => ⟨#[]⟩
def readL (bl wl : List Bk) (n : Int) : ByteArray := match wl.reverse.find? (fun x => x.f0 == n) with | some x => x.f1 | none => has bl n
theorem mem_cell {x y : Bk} : y ∈ cell x ↔ y = x ∧ x.f1.size ≠ 0 := by
  unfold cell
  split <;> simp_all
theorem mem_put {bl : List Bk} {x y : Bk} : y ∈ putL bl x ↔ (y ∈ bl ∧ y.f0 ≠ x.f0) ∨ (y = x ∧ x.f1.size ≠ 0) := by
  unfold putL
  rw [List.mem_append, List.mem_append, List.mem_filter, List.mem_filter, mem_cell, decide_eq_true_eq, decide_eq_true_eq]
  constructor
  · rintro ((⟨h, h2⟩ | h) | ⟨h, h2⟩)
    · exact .inl ⟨h, by omega⟩
    · exact .inr h
    · exact .inl ⟨h, by omega⟩
  · rintro (⟨h, h2⟩ | h)
    · rcases Int.lt_or_gt_of_ne h2 with h3 | h3
      · exact .inl (.inl ⟨h, h3⟩)
      · exact .inr ⟨h, h3⟩
    · exact .inl (.inr h)
theorem asc_put {bl : List Bk} {x : Bk} (h : Asc bl) : Asc (putL bl x) := by
  unfold putL Asc
  rw [List.pairwise_append, List.pairwise_append]
  refine ⟨⟨h.filter _, ?_, ?_⟩, h.filter _, ?_⟩
  · unfold cell; split <;> simp
  · intro a ha b hb
    rw [List.mem_filter, decide_eq_true_eq] at ha
    rw [mem_cell] at hb
    rw [hb.1]; exact ha.2
  · intro a ha b hb
    rw [List.mem_filter, decide_eq_true_eq] at hb
    rw [List.mem_append, List.mem_filter, decide_eq_true_eq, mem_cell] at ha
    rcases ha with ha | ⟨rfl, _⟩
    · omega
    · exact hb.2
theorem okBl_put {s : Int} {bl : List Bk} {x : Bk} (h : okBl s bl) (hx : okB s x) : okBl s (putL bl x) := by
  refine ⟨asc_put h.1, fun y hy => ?_⟩
  rcases mem_put.1 hy with ⟨h1, _⟩ | ⟨rfl, h1⟩
  · exact h.2 y h1
  · exact ⟨hx, h1⟩
theorem okBl_puts {s : Int} : ∀ {wl bl : List Bk}, okBl s bl → (∀ x ∈ wl, okB s x) → okBl s (putsL bl wl)
  | [], bl, h, _ => h
  | x :: wl, bl, h, hw => okBl_puts (wl := wl) (okBl_put h (hw x (by simp))) (fun y hy => hw y (by simp [hy]))
theorem has_mem {bl : List Bk} (h : Asc bl) {y : Bk} (hy : y ∈ bl) : has bl y.f0 = y.f1 := by
  unfold has
  have : bl.find? (fun x => x.f0 == y.f0) = some y := by
    induction bl with
    | nil => cases hy
    | cons b bl ih =>
      rw [List.find?_cons]
      unfold Asc at h
      rw [List.pairwise_cons] at h
      rcases List.mem_cons.1 hy with rfl | hy
      · simp
      · have := h.1 y hy
        have hf : (b.f0 == y.f0) = false := by simp; omega
        rw [hf]
        exact ih h.2 hy
  rw [this]
theorem has_none {bl : List Bk} {n : Int} (h : ∀ y ∈ bl, y.f0 ≠ n) : has bl n = ⟨#[]⟩ := by
  unfold has
  have : bl.find? (fun x => x.f0 == n) = none := by
    rw [List.find?_eq_none]
    intro x hx; simpa using h x hx
  rw [this]
theorem has_put {bl : List Bk} (h : Asc bl) (x : Bk) (n : Int) : has (putL bl x) n = if n = x.f0 then x.f1 else has bl n := by
  by_cases hn : n = x.f0
  · rw [if_pos hn]
    by_cases hz : x.f1.size = 0
    · rw [has_none, size_zero hz]
      intro y hy
      rcases mem_put.1 hy with ⟨_, h2⟩ | ⟨_, h2⟩
      · rw [hn]; exact h2
      · exact absurd hz h2
    · rw [hn]
      exact has_mem (asc_put h) (mem_put.2 (.inr ⟨rfl, hz⟩))
  · rw [if_neg hn]
    by_cases he : ∃ y ∈ bl, y.f0 = n
    · obtain ⟨y, hy, rfl⟩ := he
      rw [has_mem h hy]
      exact has_mem (asc_put h) (mem_put.2 (.inl ⟨hy, hn⟩))
    · have h1 : ∀ y ∈ bl, y.f0 ≠ n := fun y hy e => he ⟨y, hy, e⟩
      rw [has_none h1, has_none]
      intro y hy
      rcases mem_put.1 hy with ⟨h2, _⟩ | ⟨rfl, _⟩
      · exact h1 y h2
      · exact fun e => hn e.symm
theorem readL_cons {bl : List Bk} (h : Asc bl) (x : Bk) (wl : List Bk) (n : Int) : readL bl (x :: wl) n = readL (putL bl x) wl n := by
  unfold readL
  rw [List.reverse_cons, List.find?_append]
  cases hf : wl.reverse.find? (fun x => x.f0 == n) with
  | some y => rfl
  | none =>
    simp only [Option.none_or, List.find?_cons, List.find?_nil, has_put h]
    by_cases hn : n = x.f0
    · subst hn; simp
    · have : (x.f0 == n) = false := by simp; exact fun e => hn e.symm
      simp [this, hn]
theorem asc_puts : ∀ {wl bl : List Bk}, Asc bl → Asc (putsL bl wl)
  | [], bl, h => h
  | x :: wl, bl, h => asc_puts (wl := wl) (asc_put h)
/-- What a block has behind all writes is what it was read as. -/
theorem has_puts : ∀ (wl : List Bk) {bl : List Bk}, Asc bl → ∀ n, has (putsL bl wl) n = readL bl wl n
  | [], bl, h, n => rfl
  | x :: wl, bl, h, n => by
    rw [readL_cons h]
    exact has_puts wl (asc_put h) n
theorem readL_nil (bl : List Bk) (n : Int) : readL bl [] n = has bl n := rfl
theorem readL_snoc (bl wl : List Bk) (x : Bk) (n : Int) : readL bl (wl ++ [x]) n = if n = x.f0 then x.f1 else readL bl wl n := by
  unfold readL
  rw [List.reverse_append, List.reverse_singleton, List.singleton_append, List.find?_cons]
  by_cases hn : n = x.f0
  · subst hn; simp
  · have : (x.f0 == n) = false := by simp; exact fun e => hn e.symm
    rw [this, if_neg hn]
theorem len_asc : ∀ (l : List Bk) (lo s : Int), Asc l → (∀ x ∈ l, lo ≤ x.f0 ∧ x.f0 < s) → lo ≤ s → (l.length : Int) ≤ s - lo
  | [], lo, s, _, _, h => by simp; omega
  | x :: l, lo, s, ha, hb, h => by
    unfold Asc at ha
    rw [List.pairwise_cons] at ha
    have h1 := hb x (by simp)
    have h2 := len_asc l (x.f0 + 1) s ha.2 (fun y hy => ⟨by have := ha.1 y hy; omega, (hb y (by simp [hy])).2⟩) (by omega)
    rw [List.length_cons]
    push_cast
    omega
theorem okBl_len {s : Int} {bl : List Bk} (h : okBl s bl) (h0 : 0 ≤ s) (h1 : s ≤ 65536) : bl.length ≤ 65536 := by
  have := len_asc bl 0 s h.1 (fun x hx => ⟨(h.2 x hx).1.1, (h.2 x hx).1.2.1⟩) h0
  omega
/-- A sorted list is what is below a number, what has it, what is above. -/
theorem asc_split {bl : List Bk} (h : Asc bl) (n : Int) : ∃ m, bl = bl.filter (fun y => decide (y.f0 < n)) ++ m ++ bl.filter (fun y => decide (n < y.f0)) ∧ (m = [] ∧ (∀ y ∈ bl, y.f0 ≠ n) ∨ ∃ y, m = [y] ∧ y.f0 = n) := by
  induction bl with
  | nil => exact ⟨[], rfl, .inl ⟨rfl, by simp⟩⟩
  | cons b bl ih =>
    unfold Asc at h
    rw [List.pairwise_cons] at h
    obtain ⟨m, he, hm⟩ := ih h.2
    rcases Int.lt_trichotomy b.f0 n with hb | hb | hb
    · refine ⟨m, ?_, ?_⟩
      · rw [List.filter_cons, List.filter_cons, if_pos (by simpa using hb), if_neg (by simp; omega), List.cons_append, List.cons_append, ← he]
      · rcases hm with ⟨h1, h2⟩ | hm
        · refine .inl ⟨h1, fun y hy => ?_⟩
          rcases List.mem_cons.1 hy with rfl | hy
          · omega
          · exact h2 y hy
        · exact .inr hm
    · have hnone : ∀ y ∈ bl, n < y.f0 := fun y hy => by have := h.1 y hy; omega
      have hl : bl.filter (fun y => decide (y.f0 < n)) = [] := by
        rw [List.filter_eq_nil_iff]; intro y hy; have := hnone y hy; simp; omega
      have hu : bl.filter (fun y => decide (n < y.f0)) = bl := by
        rw [List.filter_eq_self]; intro y hy; simpa using hnone y hy
      refine ⟨[b], ?_, .inr ⟨b, rfl, hb⟩⟩
      rw [List.filter_cons, List.filter_cons, if_neg (by simp; omega), if_neg (by simp; omega), hl, hu]
      rfl
    · have hnone : ∀ y ∈ b :: bl, n < y.f0 := fun y hy => by
        rcases List.mem_cons.1 hy with rfl | hy
        · exact hb
        · have := h.1 y hy; omega
      have hl : (b :: bl).filter (fun y => decide (y.f0 < n)) = [] := by
        rw [List.filter_eq_nil_iff]; intro y hy; have := hnone y hy; simp; omega
      have hu : (b :: bl).filter (fun y => decide (n < y.f0)) = b :: bl := by
        rw [List.filter_eq_self]; intro y hy; simpa using hnone y hy
      refine ⟨[], ?_, .inl ⟨rfl, fun y hy => by have := hnone y hy; omega⟩⟩
      rw [hl, hu]
      rfl
/-- Rising from place to place is rising. -/
theorem asc_steps {l : List Bk} : (∀ j (h : j + 1 < l.length), (l[j]'(by omega)).f0 < (l[j + 1]'h).f0) ↔ Asc l := by
  unfold Asc
  rw [List.pairwise_iff_getElem]
  constructor
  · intro h i j hi hj hij
    obtain ⟨d, rfl⟩ : ∃ d, j = i + 1 + d := ⟨j - i - 1, by omega⟩
    clear hij
    induction d with
    | zero => exact h i hj
    | succ d ih =>
      have h1 := ih (by omega)
      have h2 := h (i + 1 + d) (by omega)
      have h3 : i + 1 + d + 1 = i + 1 + (d + 1) := by omega
      simp only [h3] at h2
      omega
  · intro h j hj
    exact h j (j + 1) (by omega) hj (by omega)
def kept : List Bk → List Bool → List Bk
  | x :: wl, t :: l => if t = true then x :: kept wl l else kept wl l
  | _, _ => []
theorem kept_mem : ∀ {wl : List Bk} {l : List Bool} {x : Bk}, x ∈ kept wl l → x ∈ wl
  | [], l, x, h => by simp [kept] at h
  | y :: wl, [], x, h => by simp [kept] at h
  | y :: wl, t :: l, x, h => by
    unfold kept at h
    split at h
    · rcases List.mem_cons.1 h with rfl | h
      · simp
      · exact List.mem_cons_of_mem _ (kept_mem h)
    · exact List.mem_cons_of_mem _ (kept_mem h)
theorem kept_all : ∀ (wl : List Bk) (n : Nat), wl.length ≤ n → kept wl (List.replicate n true) = wl
  | [], n, h => by cases n <;> rfl
  | y :: wl, 0, h => by simp at h
  | y :: wl, n + 1, h => by
    rw [List.replicate_succ]
    unfold kept
    rw [if_pos rfl, kept_all wl n (by simpa using h)]
end Go.Proofs.YthbljhmjppjcjaaDoor.Z
end

section
/- What the functions of package dev come to. -/
namespace Go.Proofs.YthbljhmjppjcjaaDoor.Z
open Go.RowKit Go.Proofs.YthbljhmjppjcjaaDoorW.PrintWords Go.Proofs.YthbljhmjppjcjaaDoorW.PrintLast
set_option linter.unusedVariables false
theorem rd_get (l : List Bk) (i : Nat) (h : i < l.length) : rd_T60 l (i : Int) = l[i] := by
  unfold rd_T60
  rw [Int.toNat_natCast, List.getD_eq_getElem?_getD, List.getElem?_eq_getElem h]; rfl
def Num0 (l : List Bk) : Prop := ∀ x ∈ l, 0 ≤ x.f0
theorem cut_f (a : ByteArray) (h : a.size ≤ 9223372036854775807) : dev_cut.f a = some (trimB a) := by
  unfold dev_cut.f strings_TrimRight.f
  rw [if_pos ⟨rfl, h⟩]; rfl
theorem right_f (x : Bk) (s : Int) (h0 : 0 ≤ x.f0) : ∃ b, dev_right.f x.f0 x.f1 s = some b ∧ (b = true ↔ okB s x) := by
  unfold dev_right.f okB
  by_cases h1 : x.f0 < s
  · rw [if_pos h1]
    by_cases h2 : (x.f1.size : Int) ≤ 512
    · rw [if_pos h2, cut_f _ (by omega)]
      refine ⟨_, rfl, ?_⟩
      rw [beq_iff_eq]
      constructor
      · intro h; exact ⟨h0, h1, by omega, bytes_inj h⟩
      · intro h; rw [h.2.2.2]
    · rw [if_neg h2]; exact ⟨false, rfl, by simp; omega⟩
  · rw [if_neg h1]; exact ⟨false, rfl, by simp; omega⟩
theorem any_f (s : Int) : ∀ (l : List Bk), Num0 l → ∃ b, anyF l s = some b ∧ (b = true ↔ ¬ ∀ x ∈ l, okB s x)
  | [], _ => ⟨false, rfl, by simp⟩
  | x :: l, h => by
    obtain ⟨b, hb, hi⟩ := right_f x s (h x (by simp))
    obtain ⟨c, hc, hj⟩ := any_f s l (fun y hy => h y (by simp [hy]))
    unfold anyF
    rw [hb]
    cases b with
    | true => exact ⟨c, by simp [hc], by rw [hj]; simp [hi.1 rfl]⟩
    | false =>
      have : ¬ okB s x := fun e => by cases hi.2 e
      exact ⟨true, by simp, by simp [this]⟩
/-- What Check asks of the blocks from a place on. -/
def OkFrom (s : Int) (bl : List Bk) (i : Nat) : Prop := ∀ j (h : j < bl.length), i ≤ j → okB s bl[j] ∧ bl[j].f1.size ≠ 0 ∧ ∀ q (e : j = q + 1), (bl[q]'(by omega)).f0 < bl[j].f0
theorem okFrom_succ {s : Int} {bl : List Bk} {i : Nat} (h : i < bl.length) : OkFrom s bl i ↔ (okB s bl[i] ∧ bl[i].f1.size ≠ 0 ∧ ∀ q (e : i = q + 1), (bl[q]'(by omega)).f0 < bl[i].f0) ∧ OkFrom s bl (i + 1) := by
  unfold OkFrom
  constructor
  · intro hh; exact ⟨hh i h (Nat.le_refl _), fun j hj hij => hh j hj (by omega)⟩
  · rintro ⟨h1, h2⟩ j hj hij
    rcases Nat.lt_or_ge i j with hlt | hge
    · exact h2 j hj hlt
    · have : j = i := by omega
      subst this; exact h1
theorem okFrom_zero {s : Int} {bl : List Bk} : OkFrom s bl 0 ↔ okBl s bl := by
  unfold OkFrom okBl
  rw [← asc_steps]
  constructor
  · intro h
    refine ⟨fun j hj => (h (j + 1) hj (by omega)).2.2 j rfl, fun x hx => ?_⟩
    obtain ⟨i, hi, rfl⟩ := List.mem_iff_getElem.1 hx
    exact ⟨(h i hi (by omega)).1, (h i hi (by omega)).2.1⟩
  · rintro ⟨h1, h2⟩ j hj _
    refine ⟨(h2 _ (List.getElem_mem hj)).1, (h2 _ (List.getElem_mem hj)).2, fun q e => ?_⟩
    subst e
    exact h1 q hj
theorem okFrom_end {s : Int} {bl : List Bk} {i : Nat} (h : bl.length ≤ i) : OkFrom s bl i := fun j hj hij => by omega
def ckC (b : Bool) : Int := if b = true then 0 else 7
theorem dCheck_l0 (s : Int) (bl wl : List Bk) (d : Bool) (f : Int) (hb : Num0 bl) (hw : Num0 wl) (hl : bl.length ≤ maxLen) : ∀ dd i : Nat, bl.length = i + dd → ∀ c : Bool,
    ∃ b, Ev (fun k => dev_Check.l0 k c bl (bl.length : Int) (i : Int) s bl wl d f) (ckC b) ∧ (b = true ↔ c = true ∧ OkFrom s bl i ∧ ∀ x ∈ wl, okB s x)
  | 0, i, hi, c => by
    have hge : ¬ ((i : Int) < (bl.length : Int)) := by omega
    cases c with
    | false =>
      refine ⟨false, Ev.step (fun k => by rw [dev_Check.l0]) ?_, by simp⟩
      exact Ev.ifn hge (Ev.ifn (by simp) (Ev.const rfl))
    | true =>
      obtain ⟨b, hb2, hbi⟩ := any_f s wl hw
      have ho : OkFrom s bl i := okFrom_end (by omega)
      refine ⟨!b, Ev.step (fun k => by rw [dev_Check.l0]) ?_, ?_⟩
      · refine Ev.ifn hge (Ev.ifp rfl (Ev.bindc (show slices_ContainsFunc_api_Block_api_Block.f wl s bl wl d f = some b from hb2) ?_))
        cases b
        · exact Ev.ifn (by simp) (Ev.const rfl)
        · exact Ev.ifp rfl (Ev.const rfl)
      · cases b
        · have : ∀ x ∈ wl, okB s x := Classical.byContradiction fun e => by cases hbi.2 e
          simp [ho]; exact this
        · have := hbi.1 rfl
          simp only [Bool.not_true, Bool.false_eq_true, false_iff, not_and]
          exact fun _ _ => this
  | dd + 1, i, hi, c => by
    have hlt : i < bl.length := by omega
    have hmax : bl.length ≤ 9223372036854775807 := hl
    have hw1 : wrap64 ((i : Int) + 1) = ((i + 1 : Nat) : Int) := by rw [w64 (by omega) (by omega)]; omega
    have no : ∃ b, Ev (fun k => dev_Check.l0 k false bl (bl.length : Int) ((i + 1 : Nat) : Int) s bl wl d f) (ckC b) ∧ b = false := by
      obtain ⟨b, h1, h2⟩ := dCheck_l0 s bl wl d f hb hw hl dd (i + 1) (by omega) false
      exact ⟨b, h1, by cases b; rfl; simp at h2⟩
    obtain ⟨nb, hno, rfl⟩ := no
    rw [okFrom_succ hlt]
    cases c with
    | false =>
      refine ⟨false, ?_, by simp⟩
      refine Ev.step (fun k => by rw [dev_Check.l0]) ?_
      refine Ev.ifp (by omega) (Ev.ifp (by omega) (Ev.ifp (by omega) (Ev.ifn (by simp) ?_)))
      rw [hw1]; exact hno
    | true =>
      obtain ⟨r, hr, hri⟩ := right_f bl[i] s (hb _ (List.getElem_mem hlt))
      cases r with
      | false =>
        have hnb : ¬ okB s bl[i] := fun e => by cases hri.2 e
        refine ⟨false, ?_, by simp [hnb]⟩
        refine Ev.step (fun k => by rw [dev_Check.l0]) ?_
        refine Ev.ifp (by omega) (Ev.ifp (by omega) (Ev.ifp (by omega) (Ev.ifp rfl (Ev.bindc (by rw [rd_get bl i hlt]; exact hr) (Ev.ifn (by simp) ?_)))))
        rw [hw1]; exact hno
      | true =>
        have hok := hri.1 rfl
        by_cases hz : bl[i].f1.size = 0
        · refine ⟨false, ?_, by simp [hz]⟩
          refine Ev.step (fun k => by rw [dev_Check.l0]) ?_
          refine Ev.ifp (by omega) (Ev.ifp (by omega) (Ev.ifp (by omega) (Ev.ifp rfl (Ev.bindc (by rw [rd_get bl i hlt]; exact hr) (Ev.ifp rfl (Ev.ifp (by rw [rd_get bl i hlt]; exact toList_nil.2 hz) ?_))))))
          rw [hw1]; exact hno
        · have hz2 : ¬ (rd_T60 bl (i : Int)).f1.toList = [] := by rw [rd_get bl i hlt, toList_nil]; exact hz
          cases i with
          | zero =>
            obtain ⟨b, h1, h2⟩ := dCheck_l0 s bl wl d f hb hw hl dd 1 (by omega) true
            refine ⟨b, ?_, ?_⟩
            · refine Ev.step (fun k => by rw [dev_Check.l0]) ?_
              refine Ev.ifp (by omega) (Ev.ifp (by omega) (Ev.ifp (by omega) (Ev.ifp rfl (Ev.bindc (by rw [rd_get bl 0 hlt]; exact hr) (Ev.ifp rfl (Ev.ifn hz2 (Ev.ifp rfl ?_)))))))
              rw [hw1]; exact h1
            · rw [h2]
              simp [hok, hz]
          | succ j =>
            have e : wrap64 (((j + 1 : Nat) : Int) - 1) = (j : Int) := by rw [w64 (by omega) (by omega)]; omega
            obtain ⟨b, h1, h2⟩ := dCheck_l0 s bl wl d f hb hw hl dd (j + 1 + 1) (by omega) (decide (bl[j].f0 < bl[j + 1].f0))
            refine ⟨b, ?_, ?_⟩
            · refine Ev.step (fun k => by rw [dev_Check.l0]) ?_
              refine Ev.ifp (by omega) (Ev.ifp (by omega) (Ev.ifp (by omega) (Ev.ifp rfl (Ev.bindc (by rw [rd_get bl (j + 1) hlt]; exact hr) (Ev.ifp rfl (Ev.ifn hz2 (Ev.ifn (by omega) (Ev.ifp (by rw [e]; omega) (Ev.ifp (by rw [e]; omega) ?_)))))))))
              rw [hw1, e, rd_get bl j (by omega), rd_get bl (j + 1) hlt]; exact h1
            · rw [h2, decide_eq_true_eq]
              constructor
              · rintro ⟨h3, h4, h5⟩
                exact ⟨rfl, ⟨⟨hok, hz, fun q hq => by (obtain rfl : j = q := by omega); exact h3⟩, h4⟩, h5⟩
              · rintro ⟨_, ⟨⟨_, _, h3⟩, h4⟩, h5⟩
                exact ⟨h3 j rfl, h4, h5⟩
theorem dCheck (s : Int) (bl wl : List Bk) (d : Bool) (f : Int) (hb : Num0 bl) (hw : Num0 wl) (hl : bl.length ≤ maxLen) :
    ∃ b, Ev (fun k => dev_Check.f k s bl wl d f) (ckC b) ∧ (b = true ↔ okDev s bl wl) := by
  have go : ∀ c : Bool, ∃ b, Ev (fun k => dev_Check.j0 k c s bl wl d f) (ckC b) ∧ (b = true ↔ c = true ∧ okBl s bl ∧ ∀ x ∈ wl, okB s x) := by
    intro c
    obtain ⟨b, h1, h2⟩ := dCheck_l0 s bl wl d f hb hw hl bl.length 0 (by omega) c
    refine ⟨b, Ev.step (fun k => by rw [dev_Check.j0]; rfl) h1, ?_⟩
    rw [h2, okFrom_zero]
  unfold dev_Check.f okDev
  by_cases h1 : s ≥ 16
  · by_cases h2 : s ≤ 65536
    · obtain ⟨b, h3, h4⟩ := go (decide ((wl.length : Int) ≤ 16384))
      refine ⟨b, Ev.ifp h1 (Ev.ifp h2 h3), ?_⟩
      rw [h4, decide_eq_true_eq]
      constructor
      · rintro ⟨a, b, c⟩; exact ⟨h1, h2, by omega, b, c⟩
      · rintro ⟨_, _, a, b, c⟩; exact ⟨by omega, b, c⟩
    · obtain ⟨b, h3, h4⟩ := go false
      refine ⟨b, Ev.ifp h1 (Ev.ifn h2 h3), ?_⟩
      rw [h4]
      simp [h2]
  · obtain ⟨b, h3, h4⟩ := go false
    refine ⟨b, Ev.ifn h1 h3, ?_⟩
    rw [h4]
    simp [h1]
theorem dCheck_ok {s : Int} {bl wl : List Bk} (h : okDev s bl wl) (d : Bool) (f : Int) : Ev (fun k => dev_Check.f k s bl wl d f) 0 := by
  obtain ⟨b, h1, h2⟩ := dCheck s bl wl d f (fun x hx => (h.2.2.2.1.2 x hx).1.1) (fun x hx => (h.2.2.2.2 x hx).1) (by
    have := okBl_len h.2.2.2.1 (by have := h.1; omega) h.2.1
    unfold maxLen; omega)
  rw [h2.2 h] at h1
  exact h1
theorem dCheck_bad {s : Int} {bl wl : List Bk} (h : ¬ okDev s bl wl) (d : Bool) (f : Int) (hb : Num0 bl) (hw : Num0 wl) (hl : bl.length ≤ maxLen) : Ev (fun k => dev_Check.f k s bl wl d f) 7 := by
  obtain ⟨b, h1, h2⟩ := dCheck s bl wl d f hb hw hl
  cases b with
  | false => exact h1
  | true => exact absurd (h2.1 rfl) h
-- where a block is
theorem u64w {i : Int} (h0 : 0 ≤ i) (h1 : i ≤ 9223372036854775807) : IntKind.u64.wrap i = i := by
  simp [IntKind.wrap, IntKind.bits, IntKind.signed]; omega
def cmpN (a b : Int) : Int := if a < b then -1 else if a > b then 1 else 0
theorem place1_f (a : Int) (c : ByteArray) (b : Int) : dev_drive_place_1.f a c b = some (cmpN a b) := by
  unfold dev_drive_place_1.f cmp_Compare_uint32.f cmp_isNaN_uint32.f cmpN
  simp only [bne_self_eq_false, Option.bind_some, Bool.false_eq_true, if_false]
  split
  · rfl
  · split <;> rfl
theorem cmpN_lt (a b : Int) : cmpN a b < 0 ↔ a < b := by unfold cmpN; split <;> (try split) <;> omega
theorem cmpN_eq (a b : Int) : (cmpN a b == 0) = decide (a = b) := by
  unfold cmpN
  rw [Bool.eq_iff_iff, beq_iff_eq, decide_eq_true_eq]
  split <;> (try split) <;> omega
theorem search_l0 (bl : List Bk) (num : Int) (m : Nat) (hm : m ≤ bl.length) (hl : bl.length ≤ 4398046511104) (h1 : ∀ i (h : i < bl.length), bl[i].f0 < num ↔ i < m) (r : Bool) (hr : r = match bl[m]? with | some y => decide (y.f0 = num) | none => false) : ∀ d i j : Nat, j - i ≤ d → i ≤ m → m ≤ j → j ≤ bl.length →
    Ev (fun k => slices_BinarySearchFunc_api_Block_api_Block_uint32_fn47.l0 k bl num (bl.length : Int) (i : Int) (j : Int)) ((m : Int), r) := by
  have endd : ∀ i : Nat, i = m → ∀ j : Nat, ¬ ((i : Int) < (j : Int)) → Ev (fun k => slices_BinarySearchFunc_api_Block_api_Block_uint32_fn47.l0 k bl num (bl.length : Int) (i : Int) (j : Int)) ((m : Int), r) := by
    intro i hi j hj
    subst hi
    refine Ev.step (fun k => by rw [slices_BinarySearchFunc_api_Block_api_Block_uint32_fn47.l0]) ?_
    refine Ev.ifn hj ?_
    rcases Nat.lt_or_ge i bl.length with hlt | hge
    · refine Ev.ifp (by omega) (Ev.ifp (by omega) (Ev.ifp (by omega) ?_))
      refine Ev.bindc (place1_f _ _ _) (Ev.const ?_)
      rw [rd_get bl i hlt, cmpN_eq, hr, List.getElem?_eq_getElem hlt]
    · refine Ev.ifn (by omega) (Ev.const ?_)
      rw [hr, List.getElem?_eq_none hge]
  intro d
  induction d with
  | zero => intro i j hd hi hj _; exact endd i (by omega) j (by omega)
  | succ d ih =>
    intro i j hd hi hj hjl
    by_cases hij : (i : Int) < (j : Int)
    · have e1 : wrap64 ((IntKind.u64.wrap (wrap64 ((i : Int) + (j : Int)))) / 2) = (((i + j) / 2 : Nat) : Int) := by
        rw [w64 (i := (i : Int) + j) (by omega) (by omega), u64w (by omega) (by omega), w64 (by omega) (by omega)]; omega
      have hmid : (i + j) / 2 < bl.length := by omega
      refine Ev.step (fun k => by rw [slices_BinarySearchFunc_api_Block_api_Block_uint32_fn47.l0]) ?_
      refine Ev.ifp hij (Ev.ifp (by rw [e1]; omega) (Ev.ifp (by rw [e1]; omega) (Ev.bindc (place1_f _ _ _) ?_)))
      rw [e1, rd_get bl _ hmid]
      have hb := h1 _ hmid
      refine Ev.ite (fun hc => ?_) (fun hc => ?_)
      · rw [cmpN_lt, hb] at hc
        rw [show wrap64 ((((i + j) / 2 : Nat) : Int) + 1) = (((i + j) / 2 + 1 : Nat) : Int) by rw [w64 (by omega) (by omega)]; omega]
        exact ih ((i + j) / 2 + 1) j (by omega) (by omega) hj hjl
      · rw [cmpN_lt, hb] at hc
        exact ih i ((i + j) / 2) (by omega) hi (by omega) (by omega)
    · exact endd i (by omega) j hij
/-- Where a block is, or would be. -/
theorem place_ev {bl : List Bk} (h : Asc bl) (hl : bl.length ≤ 4398046511104) (num : Int) :
    Ev (fun k => slices_BinarySearchFunc_api_Block_api_Block_uint32_fn47.f k bl num) (((bl.filter (fun y => decide (y.f0 < num))).length : Int), bl.any (fun y => decide (y.f0 = num))) := by
  obtain ⟨m, he, hm⟩ := asc_split h num
  have hlo : ∀ y ∈ bl.filter (fun y => decide (y.f0 < num)), y.f0 < num := fun y hy => by rw [List.mem_filter, decide_eq_true_eq] at hy; exact hy.2
  have hup : ∀ y ∈ bl.filter (fun y => decide (num < y.f0)), num < y.f0 := fun y hy => by rw [List.mem_filter, decide_eq_true_eq] at hy; exact hy.2
  have hm2 : ∀ y ∈ m, y.f0 = num := by
    rcases hm with ⟨rfl, _⟩ | ⟨y, rfl, h2⟩
    · simp
    · simpa using h2
  generalize hA : bl.filter (fun y => decide (y.f0 < num)) = A at *
  generalize hB : bl.filter (fun y => decide (num < y.f0)) = B at *
  subst he
  refine search_l0 _ num A.length (by simp) hl (fun i hi => ?_) _ ?_ _ 0 _ (Nat.le_refl _) (Nat.zero_le _) (by simp) (Nat.le_refl _)
  · constructor
    · intro hh
      rcases Nat.lt_or_ge i A.length with h3 | h3
      · exact h3
      · have : (A ++ m ++ B)[i] ∈ m ++ B := by
          have e : (A ++ m ++ B)[i] = (A ++ (m ++ B))[i]'(by simpa using hi) := by simp only [List.append_assoc]
          rw [e, List.getElem_append_right h3]
          exact List.getElem_mem _
        rcases List.mem_append.1 this with h4 | h4
        · have := hm2 _ h4; omega
        · have := hup _ h4; omega
    · intro h3
      have e : (A ++ m ++ B)[i] = A[i] := by
        rw [List.getElem_append_left (by simp; omega), List.getElem_append_left h3]
      rw [e]
      exact hlo _ (List.getElem_mem _)
  · rcases hm with ⟨rfl, h2⟩ | ⟨y, rfl, h2⟩
    · have hn : (A ++ [] ++ B).any (fun y => decide (y.f0 = num)) = false := by
        rw [List.any_eq_false]
        intro x hx; simpa using h2 x hx
      rw [hn]
      simp only [List.append_nil]
      rw [List.getElem?_append_right (Nat.le_refl _), Nat.sub_self]
      cases B with
      | nil => rfl
      | cons b B => have := hup b (by simp); simp; omega
    · have hn : (A ++ [y] ++ B).any (fun y => decide (y.f0 = num)) = true := by
        rw [List.any_eq_true]
        exact ⟨y, by simp, by simpa using h2⟩
      rw [hn, List.append_assoc, List.getElem?_append_right (Nat.le_refl _), Nat.sub_self]
      simp [h2]
theorem put_ev {s : Int} {bl : List Bk} (h : Asc bl) (hl : bl.length ≤ 65536) (x : Bk) : Ev (fun k => putF k bl x) (putL bl x) := by
  unfold putF
  refine Ev.bind (place_ev h (by omega) x.f0) ?_
  obtain ⟨m, he, hm⟩ := asc_split h x.f0
  have hlen : (bl.filter (fun y => decide (y.f0 < x.f0))).length + m.length + (bl.filter (fun y => decide (x.f0 < y.f0))).length = bl.length := by
    have := congrArg List.length he
    rw [List.length_append, List.length_append] at this; omega
  have hany : bl.any (fun y => decide (y.f0 = x.f0)) = decide (m ≠ []) := by
    rcases hm with ⟨rfl, h2⟩ | ⟨y, rfl, h2⟩
    · simp only [ne_eq, not_true_eq_false, decide_false, List.any_eq_false]
      intro z hz; simpa using h2 z hz
    · simp only [ne_eq, List.cons_ne_self, not_false_eq_true, decide_true, List.any_eq_true]
      exact ⟨y, by rw [he]; simp, by simpa using h2⟩
  dsimp only
  rw [hany]
  unfold putL cell
  generalize hA : bl.filter (fun y => decide (y.f0 < x.f0)) = A at *
  generalize hB : bl.filter (fun y => decide (x.f0 < y.f0)) = B at *
  rcases hm with ⟨rfl, h2⟩ | ⟨y, rfl, h2⟩
  · refine Ev.ifn (by simp) ?_
    by_cases hz : x.f1.size = 0
    · refine Ev.ifp (toList_nil.2 hz) (Ev.const ?_)
      rw [if_pos hz, he]
    · refine Ev.ifn (fun e => hz (toList_nil.1 e)) (Ev.const ?_)
      unfold slices_Insert_api_Block_api_Block.f
      rw [if_pos ⟨by omega, by simp at hlen; omega, rfl, by omega⟩, if_neg hz, Int.toNat_natCast, he]
      simp
  · refine Ev.ifp (by simp) ?_
    by_cases hz : x.f1.size = 0
    · refine Ev.ifp (toList_nil.2 hz) (Ev.const ?_)
      unfold slices_Delete_api_Block_api_Block.f
      rw [if_pos ⟨by omega, by simp at hlen; omega, rfl⟩, if_pos hz, Int.toNat_natCast, he]
      simp
    · refine Ev.ifn (fun e => hz (toList_nil.1 e)) (Ev.ifp ⟨by omega, by simp at hlen; omega⟩ (Ev.const ?_))
      rw [if_neg hz, Int.toNat_natCast, he]
      simp
end Go.Proofs.YthbljhmjppjcjaaDoor.Z
end

section
/- What the calls on a device come to. -/
namespace Go.Proofs.YthbljhmjppjcjaaDoor.Z
open Go.RowKit Go.Proofs.YthbljhmjppjcjaaDoorW.PrintWords Go.Proofs.YthbljhmjppjcjaaDoorW.PrintLast
set_option linter.unusedVariables false
abbrev Dv := Int × List Bk × List Bk × Bool × Int × Int
def badV : Dv := (0, [], [], false, 0, 7)
theorem clone_f (l : List Bk) (h : l.length ≤ 5864062014805) : slices_Clone_api_Block_api_Block.f l = some l := if_pos (by omega)
theorem okDev_len {s : Int} {bl wl : List Bk} (h : okDev s bl wl) : bl.length ≤ 65536 := okBl_len h.2.2.2.1 (by have := h.1; omega) h.2.1
theorem own_f {s : Int} {bl wl : List Bk} (h : okDev s bl wl) (d : Bool) (f : Int) : dev_Own.f s bl wl d f = some (s, bl, wl, d, f) := by
  have h1 := okDev_len h
  have h2 := h.2.2.1
  unfold dev_Own.f
  rw [clone_f bl (by omega), clone_f wl (by omega)]
  rfl
theorem find_back (p : Int → Blk → Bool) (wl : List Bk) (hp : ∀ i x, p i x = p 0 x) : ((uptoB (backAt wl) wl.length).find? (fun q => p q.1 q.2)).map (fun q => q.2.f1) = (wl.reverse.find? (fun x => p 0 x)).map (fun x => x.f1) := by
  have e : (uptoB (backAt wl) wl.length).map (fun q => q.2) = wl.reverse := by
    unfold uptoB
    apply List.ext_getElem (by simp)
    intro i h1 h2
    simp only [List.length_map, List.length_range] at h1
    rw [List.getElem_map, List.getElem_map, List.getElem_range, List.getElem_reverse]
    unfold backAt
    dsimp only
    have e2 : ((wl.length : Int) - 1 - (i : Int)) = ((wl.length - 1 - i : Nat) : Int) := by omega
    rw [e2, rd_get wl _ (by omega)]
  rw [← e, List.find?_map, Option.map_map]
  congr 1
  congr 1
  funext q
  exact hp _ _
theorem lastOf_f (wl : List Bk) (n : Int) : lastOf wl n = (wl.reverse.find? (fun x => x.f0 == n)).map (fun x => x.f1) := find_back (fun _ x => x.f0 == n) wl (fun _ _ => rfl)
theorem read_ev {bl : List Bk} (h : Asc bl) (hl : bl.length ≤ 65536) (wl : List Bk) (n : Int) : Ev (fun k => readF k bl wl n) (readL bl wl n) := by
  unfold readF readL
  rw [lastOf_f]
  cases wl.reverse.find? (fun x => x.f0 == n) with
  | some y => exact Ev.const rfl
  | none =>
    simp only [Option.map_none]
    refine Ev.bind (place_ev h (by omega) n) ?_
    dsimp only
    obtain ⟨m, he, hm⟩ := asc_split h n
    rcases hm with ⟨rfl, h2⟩ | ⟨y, rfl, h2⟩
    · have hn : bl.any (fun y => decide (y.f0 = n)) = false := by
        rw [List.any_eq_false]
        intro x hx; simpa using h2 x hx
      rw [hn]
      refine Ev.ifn (by simp) (Ev.const ?_)
      rw [has_none h2]
    · have hy : y ∈ bl := by rw [he]; simp
      have hn : bl.any (fun y => decide (y.f0 = n)) = true := by
        rw [List.any_eq_true]
        exact ⟨y, hy, by simpa using h2⟩
      have hlen : (bl.filter (fun y => decide (y.f0 < n))).length < bl.length := by
        have := congrArg List.length he
        rw [List.length_append, List.length_append, List.length_singleton] at this; omega
      rw [hn]
      refine Ev.ifp rfl (Ev.ifp ⟨by omega, by omega⟩ (Ev.const ?_))
      have hv : has bl n = y.f1 := by rw [← h2]; exact has_mem h hy
      have hg : bl[(bl.filter (fun y => decide (y.f0 < n))).length]? = some y := by
        generalize bl.filter (fun y => decide (y.f0 < n)) = A at *
        rw [he]
        simp
      rw [List.getElem?_eq_getElem hlen] at hg
      rw [rd_get bl _ hlen, hv, Option.some.inj hg]
theorem puts_ev {s : Int} (h0 : 0 ≤ s) (h1 : s ≤ 65536) : ∀ (wl : List Bk) {bl : List Bk}, okBl s bl → (∀ x ∈ wl, okB s x) → Ev (fun k => putsF k bl wl) (putsL bl wl)
  | [], bl, h, _ => Ev.const rfl
  | x :: wl, bl, h, hw => by
    unfold putsF
    exact Ev.bind (put_ev (s := s) h.1 (okBl_len h h0 h1) x) (puts_ev h0 h1 wl (okBl_put h (hw x (by simp))) (fun y hy => hw y (by simp [hy])))
theorem keep_ev {s : Int} (h0 : 0 ≤ s) (h1 : s ≤ 65536) : ∀ (wl : List Bk) (l : List Bool) {bl : List Bk}, okBl s bl → (∀ x ∈ wl, okB s x) → Ev (fun k => keepF k bl wl l) (putsL bl (kept wl l))
  | [], l, bl, h, _ => by unfold keepF; exact Ev.const rfl
  | x :: wl, [], bl, h, _ => by unfold keepF; exact Ev.const rfl
  | x :: wl, t :: l, bl, h, hw => by
    unfold keepF kept
    refine Ev.ite (fun ht => ?_) (fun ht => ?_)
    · rw [if_pos ht]
      exact Ev.bind (put_ev (s := s) h.1 (okBl_len h h0 h1) x) (keep_ev h0 h1 wl l (okBl_put h (hw x (by simp))) (fun y hy => hw y (by simp [hy])))
    · rw [if_neg ht]
      exact keep_ev h0 h1 wl l h (fun y hy => hw y (by simp [hy]))
def readS (s : Int) (bl wl : List Bk) (d : Bool) (n : Int) : ByteArray × Int := if d = true then (⟨#[]⟩, 17) else if n ≥ s then (⟨#[]⟩, 1) else (readL bl wl n, 0)
def writeS (s : Int) (bl wl : List Bk) (d : Bool) (f n : Int) (data : ByteArray) : Dv :=
  if d = true then (s, bl, wl, d, f, 17) else if n ≥ s then (s, bl, wl, d, f, 1) else if (data.size : Int) > 512 then (s, bl, wl, d, f, 2) else if (wl.length : Int) ≥ 16384 then (s, bl, wl, d, f, 8)
  else (s, bl, wl ++ [⟨n, trimB data⟩], downOf d f, fuseOf f, if downOf d f = true then 17 else 0)
def flushS (s : Int) (bl wl : List Bk) (d : Bool) (f : Int) : Dv :=
  if d = true then (s, bl, wl, d, f, 17) else if downOf d f = true then (s, bl, wl, true, fuseOf f, 17) else (s, putsL bl wl, [], false, fuseOf f, 0)
def crashS (s : Int) (bl wl : List Bk) (l : List Bool) : Dv := (s, putsL bl (kept wl l), [], false, -1, 0)
def spoilS (s : Int) (bl wl : List Bk) (d : Bool) (f n : Int) (data : ByteArray) : Dv :=
  if n ≥ s then (s, bl, wl, d, f, 1) else if (data.size : Int) > 512 then (s, bl, wl, d, f, 2) else (s, putL bl ⟨n, trimB data⟩, wl, d, f, 0)
variable {s : Int} {bl wl : List Bk}
theorem read_ok (h : okDev s bl wl) (d : Bool) (f n : Int) : Ev (fun k => dev_Read.f k s bl wl d f n) (readS s bl wl d n) := by
  unfold dev_Read.f readS
  refine Ev.bind (dCheck_ok h d f) (Ev.ifp rfl (Ev.ite (fun hd => ?_) (fun hd => ?_)))
  · rw [if_pos hd]; exact Ev.const rfl
  · rw [if_neg hd]
    refine Ev.ite (fun hn => ?_) (fun hn => ?_)
    · rw [if_pos hn]; exact Ev.const rfl
    · rw [if_neg hn]
      exact Ev.bind (read_ev h.2.2.2.1.1 (okDev_len h) wl n) (Ev.const rfl)
theorem write_ok (h : okDev s bl wl) (d : Bool) (f n : Int) (data : ByteArray) : Ev (fun k => dev_Write.f k s bl wl d f n data) (writeS s bl wl d f n data) := by
  unfold dev_Write.f writeS
  have hwl := h.2.2.1
  refine Ev.bind (dCheck_ok h d f) (Ev.ifp rfl (Ev.bindc (own_f h d f) ?_))
  dsimp only
  refine Ev.ite (fun hd => ?_) (fun hd => ?_)
  · rw [if_pos hd]; exact Ev.const rfl
  · rw [if_neg hd]
    refine Ev.ite (fun hn => ?_) (fun hn => ?_)
    · rw [if_pos hn]; exact Ev.const rfl
    · rw [if_neg hn]
      refine Ev.ite (fun hq => ?_) (fun hq => ?_)
      · rw [if_pos hq]; exact Ev.const rfl
      · rw [if_neg hq]
        refine Ev.ite (fun hw => ?_) (fun hw => ?_)
        · rw [if_pos hw]; exact Ev.const rfl
        · rw [if_neg hw]
          exact Ev.bindc (cut_f data (by omega)) (Ev.ifp (by omega) (Ev.const rfl))
theorem flush_ok (h : okDev s bl wl) (d : Bool) (f : Int) : Ev (fun k => dev_Flush.f k s bl wl d f) (flushS s bl wl d f) := by
  unfold dev_Flush.f flushS
  have hwl := h.2.2.1
  refine Ev.bind (dCheck_ok h d f) (Ev.ifp rfl (Ev.bindc (own_f h d f) ?_))
  dsimp only
  refine Ev.ite (fun hd => ?_) (fun hd => ?_)
  · rw [if_pos hd]; exact Ev.const rfl
  · rw [if_neg hd]
    refine Ev.ite (fun hn => ?_) (fun hn => ?_)
    · rw [if_pos hn]; exact Ev.const rfl
    · rw [if_neg hn]
      exact Ev.bind (puts_ev (by have := h.1; omega) h.2.1 wl h.2.2.2.1 h.2.2.2.2) (Ev.const rfl)
theorem crash_ok (h : okDev s bl wl) (d : Bool) (f : Int) (l : List Bool) : Ev (fun k => dev_Crash.f k s bl wl d f l) (crashS s bl wl l) := by
  unfold dev_Crash.f crashS
  refine Ev.bind (dCheck_ok h d f) (Ev.ifp rfl (Ev.bindc (own_f h d f) ?_))
  dsimp only
  exact Ev.bind (keep_ev (by have := h.1; omega) h.2.1 wl l h.2.2.2.1 h.2.2.2.2) (Ev.const rfl)
theorem spoil_ok (h : okDev s bl wl) (d : Bool) (f n : Int) (data : ByteArray) : Ev (fun k => dev_Spoil.f k s bl wl d f n data) (spoilS s bl wl d f n data) := by
  unfold dev_Spoil.f spoilS
  refine Ev.bind (dCheck_ok h d f) (Ev.ifp rfl (Ev.bindc (own_f h d f) ?_))
  dsimp only
  refine Ev.ite (fun hd => ?_) (fun hd => ?_)
  · rw [if_pos hd]; exact Ev.const rfl
  · rw [if_neg hd]
    refine Ev.ite (fun hn => ?_) (fun hn => ?_)
    · rw [if_pos hn]; exact Ev.const rfl
    · rw [if_neg hn]
      exact Ev.bindc (cut_f data (by omega)) (Ev.bind (put_ev (s := s) h.2.2.2.1.1 (okDev_len h) _) (Ev.const rfl))
/-- What the arguments bring. -/
structure Inp (s : Int) (bl wl : List Bk) : Prop where
  n1 : Num0 bl
  n2 : Num0 wl
  l1 : bl.length ≤ maxLen
theorem okDev_puts (h : okDev s bl wl) {ws : List Bk} (hw : ∀ x ∈ ws, okB s x) : okDev s (putsL bl ws) [] :=
  ⟨h.1, h.2.1, by simp, okBl_puts h.2.2.2.1 hw, by simp⟩
theorem okB_new {n : Int} {data : ByteArray} (h0 : 0 ≤ n) (hn : ¬ n ≥ s) (hd : ¬ (data.size : Int) > 512) : okB s ⟨n, trimB data⟩ := by
  have := trimB_size data
  exact ⟨h0, by simpa using hn, by simp only; omega, trimB_idem data⟩
theorem okDev_write (h : okDev s bl wl) {n : Int} (hn : 0 ≤ n) (d : Bool) (f : Int) (data : ByteArray) : okDev (writeS s bl wl d f n data).1 (writeS s bl wl d f n data).2.1 (writeS s bl wl d f n data).2.2.1 := by
  unfold writeS
  split
  · exact h
  · split
    · exact h
    · split
      · exact h
      · split
        · exact h
        · refine ⟨h.1, h.2.1, by simp only [List.length_append, List.length_singleton]; omega, h.2.2.2.1, fun x hx => ?_⟩
          rcases List.mem_append.1 hx with hx | hx
          · exact h.2.2.2.2 x hx
          · rw [List.mem_singleton] at hx
            subst hx
            exact okB_new hn ‹_› ‹_›
theorem okDev_spoil (h : okDev s bl wl) {n : Int} (hn : 0 ≤ n) (d : Bool) (f : Int) (data : ByteArray) : okDev (spoilS s bl wl d f n data).1 (spoilS s bl wl d f n data).2.1 (spoilS s bl wl d f n data).2.2.1 := by
  unfold spoilS
  split
  · exact h
  · split
    · exact h
    · exact ⟨h.1, h.2.1, h.2.2.1, okBl_put h.2.2.2.1 (okB_new hn ‹_› ‹_›), h.2.2.2.2⟩
theorem okDev_flush (h : okDev s bl wl) (d : Bool) (f : Int) : okDev (flushS s bl wl d f).1 (flushS s bl wl d f).2.1 (flushS s bl wl d f).2.2.1 := by
  unfold flushS
  split
  · exact h
  · split
    · exact h
    · exact okDev_puts h h.2.2.2.2
theorem okDev_crash (h : okDev s bl wl) (l : List Bool) : okDev (crashS s bl wl l).1 (crashS s bl wl l).2.1 (crashS s bl wl l).2.2.1 :=
  okDev_puts h (fun x hx => h.2.2.2.2 x (kept_mem hx))
end Go.Proofs.YthbljhmjppjcjaaDoor.Z
end

section
/- Lists of items, over lists: right ones, what changes make of one, what the changes between two are. -/
namespace Go.Proofs.YthbljhmjppjcjaaDoor.Z
open Go.RowKit Go.Proofs.YthbljhmjppjcjaaDoorW.PrintWords Go.Proofs.YthbljhmjppjcjaaDoorW.PrintLast
set_option linter.unusedVariables false
abbrev It := S32
abbrev key (x : It) : List UInt8 := x.f0.toList
theorem it_ext {x y : It} (h0 : x.f0.toList = y.f0.toList) (h1 : x.f1.toList = y.f1.toList) : x = y := by
  cases x; cases y
  simp only [S32.mk.injEq]
  exact ⟨bytes_inj h0, bytes_inj h1⟩
def okK (k : ByteArray) : Bool := decide (k.toList ≠ [] ∧ k.size ≤ 48)
def okI (x : It) : Bool := okK x.f0 && decide (x.f1.size ≤ 160)
def okF : Option It → List It → Bool
  | _, [] => true
  | p, x :: l => okI x && (match p with | none => true | some q => Op.bytesLess (key q) (key x)) && okF (some x) l
def okL (l : List It) : Bool := okF none l
def IAsc (l : List It) : Prop := l.Pairwise (fun x y => Op.bytesLess (key x) (key y) = true)
theorem okF_iff : ∀ (l : List It) (p : Option It), okF p l = true ↔ (∀ x ∈ l, okI x = true) ∧ IAsc (p.toList ++ l)
  | [], none => by simp [okF, IAsc]
  | [], some q => by simp [okF, IAsc]
  | x :: l, none => by
    have ih := okF_iff l (some x)
    simp only [okF, Bool.and_true, Bool.and_eq_true, ih, Option.toList, List.nil_append, List.mem_cons, forall_eq_or_imp, List.singleton_append]
    constructor
    · rintro ⟨a, b, c⟩; exact ⟨⟨a, b⟩, c⟩
    · rintro ⟨⟨a, b⟩, c⟩; exact ⟨a, b, c⟩
  | x :: l, some q => by
    have ih := okF_iff l (some x)
    simp only [okF, Bool.and_eq_true, ih, Option.toList, List.mem_cons, forall_eq_or_imp, List.singleton_append]
    constructor
    · rintro ⟨⟨a, d⟩, b, c⟩
      refine ⟨⟨a, b⟩, ?_⟩
      unfold IAsc at c ⊢
      refine List.pairwise_cons.2 ⟨fun y hy => ?_, c⟩
      rcases List.mem_cons.1 hy with rfl | hy
      · exact d
      · exact bl_trans d ((List.pairwise_cons.1 c).1 y hy)
    · rintro ⟨⟨a, b⟩, c⟩
      unfold IAsc at c ⊢
      have := List.pairwise_cons.1 c
      exact ⟨⟨a, this.1 x (List.mem_cons_self ..)⟩, b, this.2⟩
theorem okL_iff (l : List It) : okL l = true ↔ (∀ x ∈ l, okI x = true) ∧ IAsc l := by
  unfold okL; rw [okF_iff]; simp
theorem IAsc.cons {x : It} {l : List It} (h : IAsc (x :: l)) : (∀ y ∈ l, Op.bytesLess (key x) (key y) = true) ∧ IAsc l := List.pairwise_cons.1 h
theorem IAsc.parts {a b : List It} (h : IAsc (a ++ b)) : IAsc a ∧ IAsc b ∧ ∀ x ∈ a, ∀ y ∈ b, Op.bytesLess (key x) (key y) = true := List.pairwise_append.1 h
theorem IAsc.app {a b : List It} (h1 : IAsc a) (h2 : IAsc b) (h3 : ∀ x ∈ a, ∀ y ∈ b, Op.bytesLess (key x) (key y) = true) : IAsc (a ++ b) := List.pairwise_append.2 ⟨h1, h2, h3⟩
def lo (l : List It) (k : List UInt8) : List It := l.takeWhile (fun x => Op.bytesLess (key x) k)
def up (l : List It) (k : List UInt8) : List It := l.dropWhile (fun x => Op.bytesLess (key x) k)
def fnd (l : List It) (k : List UInt8) : Bool := match up l k with | x :: _ => key x == k | [] => false
def hi (l : List It) (k : List UInt8) : List It := (up l k).dropWhile (fun x => key x == k)
theorem lo_up (l : List It) (k : List UInt8) : lo l k ++ up l k = l := List.takeWhile_append_dropWhile
theorem lo_mem {l : List It} {k : List UInt8} : ∀ x ∈ lo l k, Op.bytesLess (key x) k = true := by
  unfold lo
  induction l with
  | nil => simp
  | cons y l ih =>
    intro x hx
    rw [List.takeWhile_cons] at hx
    split at hx
    next h => rcases List.mem_cons.1 hx with rfl | hx
              · exact h
              · exact ih x hx
    next h => cases hx
theorem up_head {l : List It} {k : List UInt8} {x : It} {r : List It} (h : up l k = x :: r) : Op.bytesLess (key x) k = false := by
  unfold up at h
  induction l with
  | nil => simp at h
  | cons y l ih =>
    rw [List.dropWhile_cons] at h
    split at h
    next => exact ih h
    next hn => injection h with h1 _; subst h1; simpa using hn
theorem up_ge {l : List It} (ha : IAsc l) {k : List UInt8} : ∀ x ∈ up l k, Op.bytesLess (key x) k = false := by
  intro x hx
  cases hu : up l k with
  | nil => rw [hu] at hx; cases hx
  | cons y r =>
    have h1 := up_head hu
    rw [hu] at hx
    rcases List.mem_cons.1 hx with rfl | hx
    · exact h1
    · have h2 : IAsc (lo l k ++ y :: r) := by rw [← hu, lo_up]; exact ha
      have h3 := (h2.parts.2.1.cons).1 x hx
      cases hb : Op.bytesLess (key x) k
      · rfl
      · have := bl_trans h3 hb; rw [this] at h1; cases h1
/-- The three parts of a right list about a key. -/
theorem parts_of {l : List It} (ha : IAsc l) (k : List UInt8) : ∃ mid, l = lo l k ++ mid ++ hi l k ∧ up l k = mid ++ hi l k ∧ (∀ x ∈ lo l k, Op.bytesLess (key x) k = true) ∧ (∀ x ∈ hi l k, Op.bytesLess k (key x) = true) ∧
    ((mid = [] ∧ fnd l k = false) ∨ (∃ x, mid = [x] ∧ key x = k ∧ fnd l k = true)) := by
  cases hu : up l k with
  | nil =>
    have hh : hi l k = [] := by unfold hi; rw [hu]; rfl
    refine ⟨[], ?_, by rw [hh]; rfl, lo_mem, by rw [hh]; simp, .inl ⟨rfl, by unfold fnd; rw [hu]⟩⟩
    have := lo_up l k
    rw [hu] at this
    rw [hh]; simpa using this.symm
  | cons y r =>
    have h2 : IAsc (lo l k ++ y :: r) := by rw [← hu, lo_up]; exact ha
    have hr := (h2.parts.2.1.cons).1
    have hy := up_head hu
    have hl : l = lo l k ++ y :: r := by rw [← hu, lo_up]
    by_cases he : key y = k
    · have hd : r.dropWhile (fun x => key x == k) = r := by
        cases r with
        | nil => rfl
        | cons z r =>
          have hz := hr z (List.mem_cons_self ..)
          have : (key z == k) = false := by rw [beq_eq_false_iff_ne]; rintro hk; rw [← he] at hk; exact bl_ne hz hk.symm
          rw [List.dropWhile_cons]; simp [this]
      have hh : hi l k = r := by
        unfold hi; rw [hu, List.dropWhile_cons]
        simp only [he, beq_self_eq_true, if_true]
        exact hd
      refine ⟨[y], by rw [hh]; simpa using hl, by rw [hh]; rfl, lo_mem, ?_, .inr ⟨y, rfl, he, by unfold fnd; rw [hu]; simpa using he⟩⟩
      rw [hh]; intro x hx; rw [← he]; exact hr x hx
    · have hk : Op.bytesLess k (key y) = true := by
        rcases bl_total (key y) k with h | h | h
        · exact absurd h he
        · have h' : Op.bytesLess (key y) k = true := h
          rw [hy] at h'; cases h'
        · exact h
      have hb : (key y == k) = false := by rw [beq_eq_false_iff_ne]; exact he
      have hh : hi l k = y :: r := by unfold hi; rw [hu, List.dropWhile_cons]; simp [hb]
      refine ⟨[], by rw [hh]; simpa using hl, by rw [hh]; rfl, lo_mem, ?_, .inl ⟨rfl, by unfold fnd; rw [hu]; exact hb⟩⟩
      rw [hh]; intro x hx
      rcases List.mem_cons.1 hx with rfl | hx
      · exact hk
      · exact bl_trans hk (hr x hx)
theorem lo_parts {pre rest : List It} {k : List UInt8} (h1 : ∀ x ∈ pre, Op.bytesLess (key x) k = true) (h2 : ∀ x ∈ rest, Op.bytesLess (key x) k = false) : lo (pre ++ rest) k = pre ∧ up (pre ++ rest) k = rest := by
  unfold lo up
  induction pre with
  | nil =>
    cases rest with
    | nil => exact ⟨rfl, rfl⟩
    | cons x r => have := h2 x (List.mem_cons_self ..); simp [this]
  | cons x pre ih =>
    have hx := h1 x (List.mem_cons_self ..)
    have := ih (fun y hy => h1 y (List.mem_cons_of_mem _ hy))
    simp [hx, this.1, this.2]
def look (l : List It) (k : List UInt8) : Option ByteArray := (l.find? (fun x => key x == k)).map (·.f1)
theorem look_app (a b : List It) (k : List UInt8) : look (a ++ b) k = (look a k).or (look b k) := by
  unfold look; rw [List.find?_append]; cases h : a.find? (fun x => key x == k) <;> simp
theorem look_none {l : List It} {k : List UInt8} (h : ∀ x ∈ l, key x ≠ k) : look l k = none := by
  unfold look
  rw [List.find?_eq_none.2 (fun x hx => by simpa using h x hx)]; rfl
theorem look_cons (x : It) (l : List It) (k : List UInt8) : look (x :: l) k = if key x = k then some x.f1 else look l k := by
  unfold look
  rw [List.find?_cons]
  by_cases h : key x = k
  · simp [h]
  · have : (key x == k) = false := by rw [beq_eq_false_iff_ne]; exact h
    rw [if_neg h, this]
theorem look_ext : ∀ {a b : List It}, IAsc a → IAsc b → (∀ k, (look a k).map (·.toList) = (look b k).map (·.toList)) → a = b
  | [], [], _, _, _ => rfl
  | [], y :: b, _, _, h => by have := h (key y); rw [look_cons] at this; simp [look] at this
  | x :: a, [], _, _, h => by have := h (key x); rw [look_cons] at this; simp [look] at this
  | x :: a, y :: b, ha, hb, h => by
    have hx := ha.cons.1
    have hy := hb.cons.1
    rcases bl_total (key x) (key y) with hk | hk | hk
    · have h0 := h (key x)
      rw [look_cons, look_cons, if_pos rfl, if_pos hk.symm] at h0
      obtain rfl : x = y := it_ext hk (by simpa using h0)
      refine congrArg (x :: ·) (look_ext ha.cons.2 hb.cons.2 fun k => ?_)
      by_cases hkk : key x = k
      · subst hkk
        rw [look_none (fun z hz => (bl_ne (hx z hz)).symm), look_none (fun z hz => (bl_ne (hy z hz)).symm)]
      · have := h k
        rwa [look_cons, look_cons, if_neg hkk, if_neg hkk] at this
    · have h0 := h (key x)
      rw [look_cons, if_pos rfl, look_none (l := y :: b) (fun z hz => by
        rcases List.mem_cons.1 hz with rfl | hz
        · exact (bl_ne hk).symm
        · exact (bl_ne (bl_trans hk (hy z hz))).symm)] at h0
      cases h0
    · have h0 := h (key y)
      rw [look_cons (x := y), if_pos rfl, look_none (l := x :: a) (fun z hz => by
        rcases List.mem_cons.1 hz with rfl | hz
        · exact (bl_ne hk).symm
        · exact (bl_ne (bl_trans hk (hx z hz))).symm)] at h0
      cases h0
-- the reference's Done
end Go.Proofs.YthbljhmjppjcjaaDoor.Z
end

section
/- What the functions of package item, and the reference's, come to. -/
namespace Go.Proofs.YthbljhmjppjcjaaDoor.Z
open Go.RowKit Go.Proofs.YthbljhmjppjcjaaDoorW.PrintWords Go.Proofs.YthbljhmjppjcjaaDoorW.PrintLast
set_option linter.unusedVariables false
theorem ird_get (l : List It) (i : Nat) (h : i < l.length) : rd_T32 l (i : Int) = l[i] := by
  unfold rd_T32
  rw [Int.toNat_natCast, List.getD_eq_getElem?_getD, List.getElem?_eq_getElem h]; rfl
theorem iright_f (x : It) : item_right.f x.f0 x.f1 = some (okI x) := by
  unfold item_right.f okI okK
  by_cases h : x.f0.toList = []
  · simp [h]
  · rw [if_neg h]
    by_cases h2 : (x.f0.size : Int) ≤ 48
    · rw [if_pos h2]
      have h3 : x.f0.size ≤ 48 := by omega
      have : decide ((x.f1.size : Int) ≤ 160) = decide (x.f1.size ≤ 160) := decide_eq_decide.2 (by omega)
      simp [h, h3, this]
    · rw [if_neg h2]
      have h3 : ¬ x.f0.size ≤ 48 := by omega
      simp [h3]
def prv (l : List It) : Nat → Option It
  | 0 => none
  | j + 1 => l[j]?
theorem prv_succ (l : List It) (i : Nat) (h : i < l.length) : prv l (i + 1) = some l[i] := List.getElem?_eq_getElem h
/-- What Check says at a place. -/
def ckS (b : Bool) : Int := if b then 0 else 4
theorem okF_at (l : List It) (i : Nat) (h : i < l.length) : okF (prv l i) (l.drop i) = (okI l[i] && (match prv l i with | none => true | some q => Op.bytesLess (key q) (key l[i])) && okF (prv l (i + 1)) (l.drop (i + 1))) := by
  rw [List.drop_eq_getElem_cons h, prv_succ l i h]
  cases prv l i <;> rfl
theorem itCheck_l0 (l : List It) (hl : l.length ≤ 4398046511104) : ∀ d i : Nat, l.length = i + d → Ev (fun k => item_Check.l0 k l l (l.length : Int) (i : Int)) (ckS (okF (prv l i) (l.drop i)))
  | 0, i, hi => by
    refine Ev.step (fun k => by rw [item_Check.l0]) ?_
    refine Ev.ifn (by omega) (Ev.const ?_)
    rw [List.drop_of_length_le (by omega)]
    unfold okF; rfl
  | d + 1, i, hi => by
    have hlt : i < l.length := by omega
    have ih := itCheck_l0 l hl d (i + 1) (by omega)
    rw [okF_at l i hlt]
    refine Ev.step (fun k => by rw [item_Check.l0]) ?_
    refine Ev.ifp (by omega) (Ev.ifp (by omega) (Ev.ifp (by omega) (Ev.bindc (by rw [ird_get l i hlt]; exact iright_f _) ?_)))
    cases hr : okI l[i] with
    | false => exact Ev.ifn (by simp) (Ev.const rfl)
    | true =>
      refine Ev.ifp rfl ?_
      rw [w64 (i := (i : Int) + 1) (by omega) (by omega)]
      cases i with
      | zero =>
        refine Ev.ifn (by omega) (Ev.val ih ?_)
        simp [prv]
      | succ j =>
        refine Ev.ifp (by omega) ?_
        have e : wrap64 (((j + 1 : Nat) : Int) - 1) = (j : Int) := by rw [w64 (by omega) (by omega)]; omega
        rw [e]
        refine Ev.ifp (by omega) (Ev.ifp (by omega) ?_)
        rw [ird_get l j (by omega), ird_get l (j + 1) hlt]
        rw [prv_succ l j (by omega)]
        cases hb : Op.bytesLess (l[j]).f0.toList (l[j + 1]).f0.toList with
        | false =>
          refine Ev.ifn (by simp) (Ev.const ?_)
          simp [ckS, key, hb]
        | true =>
          refine Ev.ifp rfl (Ev.val ih ?_)
          simp [key, hb]
theorem itCheck (l : List It) (hl : l.length ≤ 4398046511104) : Ev (fun k => item_Check.f k l) (ckS (okL l)) := itCheck_l0 l hl l.length 0 (by omega)
-- two texts compared
def cmpS (a b : List UInt8) : Int := if Op.bytesLess a b = true then -1 else if Op.bytesLess b a = true then 1 else 0
theorem compare_f (a b : ByteArray) : cmp_Compare_string.f a b = some (cmpS a.toList b.toList) := by
  unfold cmp_Compare_string.f cmp_isNaN_string.f cmpS
  simp only [bne_self_eq_false, Option.bind_some, Bool.false_eq_true, if_false]
  split
  · rfl
  · split <;> rfl
theorem cmpS_lt (a b : List UInt8) : cmpS a b < 0 ↔ Op.bytesLess a b = true := by
  unfold cmpS
  cases h : Op.bytesLess a b
  · simp only [Bool.false_eq_true, if_false, iff_false]; split <;> omega
  · simp
theorem cmpS_eq (a b : List UInt8) : (cmpS a b == 0) = (a == b) := by
  unfold cmpS
  rcases bl_total a b with rfl | h | h
  · simp [bl_irrefl]
  · have := bl_ne h
    simp [h, this]
  · have := (bl_ne h).symm
    simp [h, bl_asymm h, this]
theorem iu64w {i : Int} (h0 : 0 ≤ i) (h1 : i ≤ 9223372036854775807) : IntKind.u64.wrap i = i := by
  simp [IntKind.wrap, IntKind.bits, IntKind.signed]; omega
theorem lo_get {l : List It} (ha : IAsc l) (k : List UInt8) (h : Nat) (hh : h < l.length) : Op.bytesLess (key l[h]) k = true ↔ h < (lo l k).length := by
  have e := lo_up l k
  constructor
  · intro hb
    rcases Nat.lt_or_ge h (lo l k).length with hc | hc
    · exact hc
    · have hm : l[h] ∈ up l k := by
        have : l[h] = (lo l k ++ up l k)[h]'(by rw [e]; exact hh) := by simp only [e]
        rw [this, List.getElem_append_right hc]
        exact List.getElem_mem _
      rw [up_ge ha _ hm] at hb; cases hb
  · intro hc
    have hm : l[h] ∈ lo l k := by
      have : l[h] = (lo l k ++ up l k)[h]'(by rw [e]; exact hh) := by simp only [e]
      rw [this, List.getElem_append_left hc]
      exact List.getElem_mem _
    exact lo_mem _ hm
theorem lo_le (l : List It) (k : List UInt8) : (lo l k).length ≤ l.length := by
  have := congrArg List.length (lo_up l k); rw [List.length_append] at this; omega
theorem up_drop (l : List It) (k : List UInt8) : up l k = l.drop (lo l k).length := by
  have := congrArg (List.drop (lo l k).length) (lo_up l k)
  rw [List.drop_left] at this
  exact this
theorem isearch_l0 {l : List It} (ha : IAsc l) (hl : l.length ≤ 4398046511104) (a : ByteArray) : ∀ d i j : Nat, j - i ≤ d → i ≤ (lo l a.toList).length → (lo l a.toList).length ≤ j → j ≤ l.length →
    Ev (fun k => slices_BinarySearchFunc_api_Item_api_Item_string_fn36.l0 k l a (l.length : Int) (i : Int) (j : Int)) (((lo l a.toList).length : Int), fnd l a.toList) := by
  have endd : ∀ i : Nat, i = (lo l a.toList).length → ∀ j : Nat, ¬ ((i : Int) < (j : Int)) → Ev (fun k => slices_BinarySearchFunc_api_Item_api_Item_string_fn36.l0 k l a (l.length : Int) (i : Int) (j : Int)) (((lo l a.toList).length : Int), fnd l a.toList) := by
    intro i hi j hj
    refine Ev.step (fun k => by rw [slices_BinarySearchFunc_api_Item_api_Item_string_fn36.l0]) (Ev.ifn hj ?_)
    have hu := up_drop l a.toList
    rw [← hi] at hu
    rcases Nat.lt_or_ge i l.length with hlt | hge
    · refine Ev.ifp (by omega) (Ev.ifp (by omega) (Ev.ifp (by omega) ?_))
      refine Ev.bindc (show item_place_1.f _ _ _ = some _ by unfold item_place_1.f; rw [compare_f]; rfl) (Ev.const ?_)
      rw [ird_get l i hlt, cmpS_eq, ← hi]
      unfold fnd
      rw [hu, List.drop_eq_getElem_cons hlt]
    · refine Ev.ifn (by omega) (Ev.const ?_)
      rw [← hi]
      unfold fnd
      rw [hu, List.drop_of_length_le hge]
  intro d
  induction d with
  | zero =>
    intro i j hd h1 h2 h3
    exact endd i (by omega) j (by omega)
  | succ d ih =>
    intro i j hd h1 h2 h3
    by_cases hij : i < j
    · refine Ev.step (fun k => by rw [slices_BinarySearchFunc_api_Item_api_Item_string_fn36.l0]) (Ev.ifp (by omega) ?_)
      have hm : wrap64 ((IntKind.u64.wrap (wrap64 ((i : Int) + (j : Int)))) / 2) = (((i + j) / 2 : Nat) : Int) := by
        rw [w64 (i := (i : Int) + (j : Int)) (by omega) (by omega), iu64w (by omega) (by omega), w64 (by omega) (by omega)]; omega
      rw [hm]
      obtain ⟨h, hh⟩ : ∃ h, h = (i + j) / 2 := ⟨_, rfl⟩
      have hh1 : i ≤ h := by omega
      have hh2 : h < j := by omega
      rw [← hh]
      have hlt : h < l.length := by omega
      refine Ev.ifp (by omega) (Ev.ifp (by omega) ?_)
      refine Ev.bindc (show item_place_1.f _ _ _ = some _ by unfold item_place_1.f; rw [compare_f]; rfl) ?_
      rw [ird_get l h hlt]
      have hg := lo_get ha a.toList h hlt
      by_cases hb : Op.bytesLess (key l[h]) a.toList = true
      · refine Ev.ifp ((cmpS_lt _ _).2 hb) ?_
        have e : wrap64 ((h : Int) + 1) = ((h + 1 : Nat) : Int) := by rw [w64 (by omega) (by omega)]; omega
        rw [e]
        exact ih (h + 1) j (by omega) (by have := hg.1 hb; omega) h2 h3
      · refine Ev.ifn (fun hc => hb ((cmpS_lt _ _).1 hc)) ?_
        refine ih i h (by omega) h1 ?_ (by omega)
        rcases Nat.lt_or_ge h (lo l a.toList).length with hc | hc
        · exact absurd (hg.2 hc) hb
        · exact hc
    · exact endd i (by omega) j (by omega)
theorem place_f {l : List It} (ha : IAsc l) (hl : l.length ≤ 4398046511104) (a : ByteArray) : Ev (fun k => item_place.f k l a) (((lo l a.toList).length : Int), fnd l a.toList) := by
  unfold item_place.f slices_BinarySearchFunc_api_Item_api_Item_string_fn36.f
  exact Ev.bind (isearch_l0 ha hl a l.length 0 l.length (by omega) (by omega) (lo_le _ _) (Nat.le_refl _)) (Ev.const rfl)
/-- Where a key is: what stands there. -/
theorem at_fnd {l : List It} (ha : IAsc l) {k : List UInt8} (hf : fnd l k = true) : ∃ h : (lo l k).length < l.length, key (l[(lo l k).length]) = k ∧ l = lo l k ++ [l[(lo l k).length]] ++ hi l k := by
  obtain ⟨mid, hp, hu, hlo, hhi, hm⟩ := parts_of ha k
  rcases hm with ⟨_, h⟩ | ⟨x, rfl, hx, _⟩
  · rw [h] at hf; cases hf
  · have hlen := congrArg List.length hp
    simp only [List.length_append, List.length_singleton] at hlen
    have hlt : (lo l k).length < l.length := by omega
    have hg : l[(lo l k).length] = x := by
      have : l[(lo l k).length]? = some x := by
        have h2 := congrArg (fun z => z[(lo l k).length]?) hp
        simp only [List.append_assoc] at h2
        rw [List.getElem?_append_right (Nat.le_refl _), Nat.sub_self] at h2
        simpa using h2
      rw [List.getElem?_eq_getElem hlt] at this
      exact Option.some.inj this
    exact ⟨hlt, by rw [hg]; exact hx, by rw [hg]; exact hp⟩
theorem not_fnd {l : List It} (ha : IAsc l) {k : List UInt8} (hf : fnd l k = false) : l = lo l k ++ hi l k := by
  obtain ⟨mid, hp, hu, hlo, hhi, hm⟩ := parts_of ha k
  rcases hm with ⟨rfl, _⟩ | ⟨x, rfl, hx, h⟩
  · simpa using hp
  · rw [h] at hf; cases hf
theorem hi_gt {l : List It} (ha : IAsc l) {k : List UInt8} : ∀ x ∈ hi l k, Op.bytesLess k (key x) = true := by
  obtain ⟨mid, hp, hu, hlo, hhi, hm⟩ := parts_of ha k
  exact hhi
theorem look_fnd {l : List It} (ha : IAsc l) {k : List UInt8} (hf : fnd l k = true) (h : (lo l k).length < l.length) : look l k = some (l[(lo l k).length]).f1 := by
  obtain ⟨h2, hk, hp⟩ := at_fnd ha hf
  have e := congrArg (fun z => look z k) hp
  simp only [look_app] at e
  rw [e, look_none (fun x hx => bl_ne (lo_mem x hx)), look_cons, if_pos hk]
  simp
theorem look_not {l : List It} (ha : IAsc l) {k : List UInt8} (hf : fnd l k = false) : look l k = none := by
  have e := congrArg (fun z => look z k) (not_fnd ha hf)
  simp only [look_app] at e
  rw [e, look_none (fun x hx => bl_ne (lo_mem x hx)), look_none (fun x hx => (bl_ne (hi_gt ha x hx)).symm)]; rfl
def getS (l : List It) (k : List UInt8) : ByteArray × Int := if okL l = true then (match look l k with | some v => (v, 0) | none => (⟨#[]⟩, 5)) else (⟨#[]⟩, 4)
theorem itGet (l : List It) (hl : l.length ≤ 4398046511104) (a : ByteArray) : Ev (fun k => item_Get.f k l a) (getS l a.toList) := by
  unfold item_Get.f
  refine Ev.bind (itCheck l hl) ?_
  by_cases ho : okL l = true
  · have ha := ((okL_iff l).1 ho).2
    unfold getS
    rw [if_pos ho]
    refine Ev.ifp (by rw [ho]; rfl) (Ev.bind (place_f ha hl a) ?_)
    cases hf : fnd l a.toList with
    | true =>
      obtain ⟨h, hk, _⟩ := at_fnd ha hf
      refine Ev.ifp rfl (Ev.ifp (by simp only; omega) (Ev.ifp (by simp only; omega) (Ev.const ?_)))
      rw [look_fnd ha hf h, ird_get l _ h]
    | false =>
      refine Ev.ifn (by simp) (Ev.const ?_)
      rw [look_not ha hf]
  · have ho' : okL l = false := by simpa using ho
    unfold getS
    rw [ho']
    exact Ev.ifn (by decide) (Ev.const rfl)
theorem look_at {l : List It} (ha : IAsc l) (j : Nat) (h : j < l.length) : look l (key l[j]) = some (l[j]).f1 := by
  have e : l = l.take j ++ l[j] :: l.drop (j + 1) := by rw [← List.drop_eq_getElem_cons h, List.take_append_drop]
  have ha2 : IAsc (l.take j ++ l[j] :: l.drop (j + 1)) := e ▸ ha
  have e2 := congrArg (fun z => look z (key l[j])) e
  simp only [look_app] at e2
  rw [e2, look_none (fun x hx => bl_ne (ha2.parts.2.2 x hx _ (List.mem_cons_self ..))), look_cons, if_pos rfl]; rfl
end Go.Proofs.YthbljhmjppjcjaaDoor.Z
end

section
/- What Under, Same and SameChanges come to. -/
namespace Go.Proofs.YthbljhmjppjcjaaDoor.Z
open Go.RowKit Go.Proofs.YthbljhmjppjcjaaDoorW.PrintWords Go.Proofs.YthbljhmjppjcjaaDoorW.PrintLast
set_option linter.unusedVariables false
def hp (p : List UInt8) (x : It) : Bool := p.isPrefixOf (key x)
theorem cut_pre (a b : ByteArray) : ((a.extract 0 ((b.size : Int) : Int).toNat).toList = b.toList) ↔ b.toList.isPrefixOf a.toList = true := by
  rw [Int.toNat_natCast, Lib.extract_eq, ByteArray.toList_eq, ByteArray.toList_eq, ByteArray.toList_eq, List.isPrefixOf_iff_prefix, List.prefix_iff_eq_take]
  have hs : b.size = b.data.toList.length := by rw [Array.length_toList]; rfl
  rw [hs]
  simp only [List.drop_zero, Nat.sub_zero]
  exact eq_comm
theorem pre_size {a b : ByteArray} (h : b.toList.isPrefixOf a.toList = true) : b.size ≤ a.size := by
  rw [ByteArray.toList_eq, ByteArray.toList_eq, List.isPrefixOf_iff_prefix] at h
  have := h.length_le
  simpa using this
theorem pre_not_lt : ∀ {p k : List UInt8}, p.isPrefixOf k = true → Op.bytesLess k p = false
  | [], [], _ => rfl
  | [], _ :: _, _ => rfl
  | _ :: _, [], h => by simp at h
  | c :: p, d :: k, h => by
    simp only [List.isPrefixOf, Bool.and_eq_true, beq_iff_eq] at h
    obtain ⟨rfl, h⟩ := h
    have := pre_not_lt h
    simp [Op.bytesLess, this]
theorem pre_between : ∀ {p x y : List UInt8}, Op.bytesLess x p = false → Op.bytesLess x y = true → p.isPrefixOf y = true → p.isPrefixOf x = true
  | [], _, _, _, _, _ => by simp
  | _ :: _, _, [], _, _, h => by simp at h
  | c :: p, [], d :: y, h, _, _ => by simp [Op.bytesLess] at h
  | c :: p, e :: x, d :: y, h1, h2, h3 => by
    simp only [List.isPrefixOf, Bool.and_eq_true, beq_iff_eq] at h3 ⊢
    obtain ⟨rfl, h3⟩ := h3
    simp only [Op.bytesLess, Bool.or_eq_false_iff, decide_eq_false_iff_not, Bool.and_eq_false_iff, beq_eq_false_iff_ne, Bool.or_eq_true, decide_eq_true_eq, Bool.and_eq_true, beq_iff_eq] at h1 h2
    obtain ⟨h1, h4⟩ := h1
    rcases h2 with h2 | ⟨rfl, h2⟩
    · exact absurd h2 h1
    · refine ⟨rfl, pre_between ?_ h2 h3⟩
      rcases h4 with h4 | h4
      · exact absurd rfl h4
      · exact h4
theorem filter_up {p : List UInt8} : ∀ {u : List It}, IAsc u → (∀ x ∈ u, Op.bytesLess (key x) p = false) → u.filter (hp p) = u.takeWhile (hp p)
  | [], _, _ => rfl
  | x :: u, ha, h => by
    cases hx : hp p x with
    | true =>
      rw [List.filter_cons_of_pos hx, List.takeWhile_cons_of_pos hx]
      exact congrArg _ (filter_up ha.cons.2 (fun y hy => h y (List.mem_cons_of_mem _ hy)))
    | false =>
      rw [List.takeWhile_cons_of_neg (by simp [hx]), List.filter_eq_nil_iff]
      intro y hy
      rcases List.mem_cons.1 hy with rfl | hy
      · simp [hx]
      · intro hyp
        have := pre_between (h x (List.mem_cons_self ..)) (ha.cons.1 y hy) hyp
        unfold hp at hx; rw [hx] at this; cases this
theorem filter_pre {l : List It} (ha : IAsc l) (p : List UInt8) : l.filter (hp p) = (up l p).takeWhile (hp p) := by
  have h2 : IAsc (lo l p ++ up l p) := by rw [lo_up]; exact ha
  rw [← filter_up h2.parts.2.1 (up_ge ha)]
  conv => lhs; rw [← lo_up l p]
  rw [List.filter_append, List.filter_eq_nil_iff.2, List.nil_append]
  intro x hx hb
  have := pre_not_lt hb
  rw [lo_mem x hx] at this; cases this
def underS (l : List It) (p : List UInt8) : List It × Int := if okL l = true then (l.filter (hp p), 0) else ([], 4)
end Go.Proofs.YthbljhmjppjcjaaDoor.Z
end

section
/- What a reading of an argument as data gives a contract: the values of a kind (Kd), well formed, and their bulk. -/
namespace Go.Proofs.YthbljhmjppjcjaaDoor.Z
open Go.ChangeShapes Go.WideShapes Go.ChangeAt Go.RowKit Go.Deep Go.Proofs.YthbljhmjppjcjaaDoorW.PrintWords Go.Proofs.YthbljhmjppjcjaaDoorW.PrintLast
set_option linter.unusedVariables false
/-- Every reading of type t's cells is one of d, is G, and is of bulk B at least. -/
def Opens {α : Type} (P : Program) (t : TypeId) (d : Kd α) (G : α → Prop) (B : α → Nat) : Prop :=
  d.sz = P.cellsOf t ∧ ∀ {H : Type} {enc : TypeId × Value → H} {w : World} {base : Nat} {spare : Nat → Bool} {held : Bool} {fuel : Nat} {cs : List Value} {x : DataW H × List MemPlace},
    DataW.trod enc P w base spare held fuel t cs = some x → ∃ a, d.K w a cs ∧ G a ∧ B a ≤ Rows.uptoBulk x.1
theorem Opens.bool {P : Program} {t : TypeId} (ht : P.underlying t = some .bool) (hc : P.cellsOf t = 1) : Opens P t Kd.bool (fun _ => True) (fun _ => 1) := by
  refine ⟨hc.symm, fun h => ?_⟩
  obtain ⟨b, rfl, rfl⟩ := DataW.trod_bool ht h
  exact ⟨b, rfl, trivial, by simp [Rows.uptoBulk]⟩
theorem Opens.int {P : Program} {t : TypeId} {k : IntKind} (ht : P.underlying t = some (.int k)) (hc : P.cellsOf t = 1) : Opens P t (Kd.int k) (fun n => (Lit.int k n).wf = true) (fun _ => 1) := by
  refine ⟨hc.symm, fun h => ?_⟩
  obtain ⟨b, rfl, rfl, hw⟩ := DataW.trod_int ht h
  exact ⟨b, rfl, hw, by simp [Rows.uptoBulk]⟩
theorem Opens.string {P : Program} {t : TypeId} (ht : P.underlying t = some .string) (hc : P.cellsOf t = 1) : Opens P t Kd.string (fun s => s.size ≤ maxLen) (fun s => s.size + 1) := by
  refine ⟨hc.symm, fun h => ?_⟩
  obtain ⟨b, rfl, rfl, hw⟩ := DataW.trod_string ht h
  exact ⟨b, rfl, hw, by simp [Rows.uptoBulk]⟩
theorem bulk_len {H : Type} (l : List (DataW H)) {α : Type} {B : α → Nat} (xs : List α) (hl : xs.length = l.length) (h : ∀ (i : Nat) (a : α) (y : DataW H), xs[i]? = some a → l[i]? = some y → B a ≤ Rows.uptoBulk y) : (xs.map B).sum ≤ Rows.uptoBulkAll l := by
  induction l generalizing xs with
  | nil => have : xs = [] := List.eq_nil_of_length_eq_zero hl; subst this; simp [Rows.uptoBulkAll]
  | cons y l ih =>
    cases xs with
    | nil => simp at hl
    | cons a xs =>
      simp only [List.map_cons, List.sum_cons, Rows.uptoBulkAll]
      have h0 := h 0 a y rfl rfl
      have h1 := ih xs (by simpa using hl) (fun i a y ha hy => h (i + 1) a y (by simpa using ha) (by simpa using hy))
      omega
theorem list_of_each {α : Type} (p : Nat → α → Prop) : ∀ n : Nat, (∀ i, i < n → ∃ a, p i a) → ∃ l : List α, l.length = n ∧ ∀ i a, l[i]? = some a → p i a
  | 0, _ => ⟨[], rfl, fun i a h => by simp at h⟩
  | n + 1, h => by
    obtain ⟨l, hl, hp⟩ := list_of_each p n (fun i hi => h i (by omega))
    obtain ⟨a, ha⟩ := h n (by omega)
    refine ⟨l ++ [a], by simp [hl], fun i b hb => ?_⟩
    rcases Nat.lt_or_ge i l.length with hi | hi
    · rw [List.getElem?_append_left hi] at hb; exact hp i b hb
    · have hi2 : i = l.length := by
        have := (List.getElem?_eq_some_iff.1 hb).1
        simp at this; omega
      subst hi2
      have hb2 : a = b := by simpa using hb
      subst hb2
      rw [hl]; exact ha
/-- A slice, opened. -/
theorem Opens.row {α : Type} {P : Program} {t e : TypeId} {d : Kd α} {G : α → Prop} {B : α → Nat} (ht : P.underlying t = some (.slice e)) (hO : Opens P e d G B) (hpos : 0 < P.cellsOf e)
    {H : Type} {enc : TypeId × Value → H} {w : World} {base : Nat} {spare : Nat → Bool} {held : Bool} {fuel : Nat} {cs : List Value} {x : DataW H × List MemPlace} (h : DataW.trod enc P w base spare held fuel t cs = some x) :
    ∃ (A : Option Addr) (c : Nat) (l : List α), cs = [.slice A l.length c] ∧ l.length ≤ c ∧ c ≤ maxLen ∧ Kd.C d w A l.length l ∧ (∀ a ∈ l, G a) ∧ (l.map B).sum + 1 ≤ Rows.uptoBulk x.1 ∧ (x.1 = .nil ∧ l = [] ∨ ∃ el sp, x.1 = .slice el sp ∧ el.length = l.length) := by
  rcases DataW.trod_slice ht h with ⟨rfl, rfl⟩ | ⟨a, len, cap, elems, rest, n, _, rfl, rfl, hb, hl, hm, hlen, hel, _, _⟩
  · exact ⟨none, 0, [], rfl, Nat.le_refl _, Nat.zero_le _, Kd.C_nil _ _, by simp, by simp [Rows.uptoBulk], Or.inl ⟨rfl, rfl⟩⟩
  · have each : ∀ i, i < len → ∃ a' : α, ∃ cs' y, w.cells? base (a.add (i * P.cellsOf e)) (P.cellsOf e) = some cs' ∧ elems[i]? = some y ∧ d.K w a' cs' ∧ G a' ∧ B a' ≤ Rows.uptoBulk y.1 := by
      intro i hi
      have h1 := hel i hi
      obtain ⟨y, hy⟩ : ∃ y, elems[i]? = some y := ⟨elems[i]'(by omega), List.getElem?_eq_getElem (by omega)⟩
      rw [hy, Option.bind_eq_some_iff] at h1
      obtain ⟨cs', hcs, htr⟩ := h1
      obtain ⟨a', hK, hG, hB⟩ := hO.2 htr
      exact ⟨a', cs', y, hcs, hy, hK, hG, hB⟩
    obtain ⟨l, hll, hp⟩ := list_of_each _ len each
    subst hll
    refine ⟨some a, cap, l, rfl, hl, hm, ⟨rfl, by unfold maxLen at hm; omega, fun _ => ⟨a, rfl, fun j p hj => ?_⟩⟩, ?_, ?_, Or.inr ⟨_, _, rfl, by simpa using hlen⟩⟩
    · obtain ⟨cs', y, hcs, _, hK, _, _⟩ := hp j p hj
      obtain ⟨_, hln, hc⟩ := World.cells?_some hcs
      refine ⟨cs', by rw [hln, hO.1], hK, fun i u hu => ?_⟩
      have hi : i < P.cellsOf e := by rw [← hln]; exact (List.getElem?_eq_some_iff.1 hu).1
      have := hc i hi
      rw [hu] at this
      rw [hO.1, ← this]
      congr 1
      have hs : a.spot = none := by
        have h0 := hc 0 hpos
        rw [List.getElem?_eq_getElem (by omega)] at h0
        cases hsp : a.spot with
        | none => rfl
        | some s =>
          rcases Nat.eq_zero_or_pos (j * P.cellsOf e) with hz | hz
          · rw [hz] at h0
            have : w.cell? a = some _ := h0
            unfold World.cell? at this
            rw [hsp] at this
            split at this <;> simp at this
          · have hl0 : 0 < l.length := by have := (List.getElem?_eq_some_iff.1 hj).1; omega
            obtain ⟨p0, hp0⟩ : ∃ p0, l[0]? = some p0 := ⟨l[0], List.getElem?_eq_getElem hl0⟩
            obtain ⟨cs0, y0, hcs0, _, _, _, _⟩ := hp 0 p0 hp0
            obtain ⟨_, hln0, hc0⟩ := World.cells?_some hcs0
            have h00 := hc0 0 hpos
            rw [List.getElem?_eq_getElem (by omega), Nat.zero_mul] at h00
            have : w.cell? a = some _ := h00
            unfold World.cell? at this
            rw [hsp] at this
            split at this <;> simp at this
      obtain ⟨b, o, s⟩ := a
      simp only at hs
      subst hs
      rw [add_at, add_at, add_at, Nat.add_assoc]
    · intro b hb
      obtain ⟨i, hi⟩ := List.getElem?_of_mem hb
      exact (hp i b hi).choose_spec.choose_spec.2.2.2.1
    · simp only [Rows.uptoBulk]
      have := bulk_len (elems.map (·.1)) (B := B) l (by simp [hlen]) (fun i b y hb hy => by
        obtain ⟨cs', y', _, hy', _, _, hB⟩ := hp i b hb
        rw [List.getElem?_map, hy'] at hy
        simp at hy
        subst hy
        exact hB)
      omega
/-- A struct of fields of one cell: each field's cell and reading. -/
theorem flat_fields {P : Program} {t : TypeId} {fs : Array Field} (ht : P.underlying t = some (.struct fs)) (hone : oneCellFields P fs = true) (hC : P.cellsOf t = fs.size)
    {H : Type} {enc : TypeId × Value → H} {w : World} {base : Nat} {spare : Nat → Bool} {held : Bool} {fuel : Nat} {cs : List Value} {x : DataW H × List MemPlace} (h : DataW.trod enc P w base spare held fuel t cs = some x) :
    ∃ (ys : List (DataW H × List MemPlace)) (n : Nat), cs.length = fs.size ∧ ys.length = fs.size ∧ x.1 = .agg (ys.map (·.1)) ∧ ∀ (i : Nat) (f : Field) (c : Value), fs[i]? = some f → cs[i]? = some c → DataW.trod enc P w base spare held n f.type [c] = ys[i]? := by
  obtain ⟨xs, n, _, rfl, hl, hlen, hf⟩ := DataW.trod_struct ht h
  refine ⟨xs, n, hl.trans hC, hlen, rfl, fun i f c hfi hc => ?_⟩
  have h1 := hf i f hfi
  obtain ⟨o0, k0⟩ := hone_of hone i f hfi
  rw [o0, k0] at h1
  rw [← h1]
  congr 1
  have hi := (List.getElem?_eq_some_iff.1 hc).1
  rw [List.drop_eq_getElem_cons hi, List.take_succ_cons, List.take_zero]
  rw [List.getElem?_eq_getElem hi] at hc
  simp at hc
  rw [hc]
/-- A slice among the arguments: its length, by the form's reach. -/
theorem sized_row {H : Type} {P : Program} {ts : List TypeId} {ds : List (DataW H)} {j : Nat} {t e : TypeId} {d : DataW H} {α : Type} {l : List α}
    (hsz : (DataW.weightsEach P ts ds).all (· ≤ reachBytes) = true) (ht : ts[j]? = some t) (hd : ds[j]? = some d) (hu : P.underlying t = some (.slice e)) {b : Nat} (hb : P.bytesOf e = b)
    (hx : d = .nil ∧ l = [] ∨ ∃ el sp, d = .slice el sp ∧ el.length = l.length) : l.length * b ≤ 140737488351232 := by
  rcases hx with ⟨_, rfl⟩ | ⟨el, sp, rfl, hl⟩
  · simp
  · have := sized_slice hsz ht hd hu
    rw [hb, hl] at this
    exact Nat.le_trans (Nat.mul_le_mul_right _ (Nat.le_add_right _ _)) this
/-- A slice that is a field of an argument: its length, by the form's reach. -/
theorem sized_field {H : Type} {P : Program} {ts : List TypeId} {ds : List (DataW H)} {j i : Nat} {t u e : TypeId} {d y : DataW H} {parts : List (DataW H)} {fs : Array Field} {α : Type} {l : List α}
    (hsz : (DataW.weightsEach P ts ds).all (· ≤ reachBytes) = true) (ht : ts[j]? = some t) (hd : ds[j]? = some d) (hx : d = .agg parts) (hu : P.underlying t = some (.struct fs)) (hf : (fs.toList.map (·.type))[i]? = some u) (hp : parts[i]? = some y)
    (hu2 : P.underlying u = some (.slice e)) {b : Nat} (hb : P.bytesOf e = b) (hy : y = .nil ∧ l = [] ∨ ∃ el sp, y = .slice el sp ∧ el.length = l.length) : l.length * b ≤ 140737488351232 := by
  rcases hy with ⟨_, rfl⟩ | ⟨el, sp, rfl, hl⟩
  · simp
  · have h1 : (el.length + sp.length) * P.bytesOf e ∈ DataW.weights P t d := by
      subst hx
      simp only [DataW.weights, hu]
      exact DataW.weights_mem_each hf hp _ (by simp [DataW.weights, hu2])
    have h2 := List.all_eq_true.1 hsz _ (DataW.weights_mem_each ht hd _ h1)
    rw [decide_eq_true_eq, hb, hl] at h2
    exact Nat.le_trans (Nat.mul_le_mul_right _ (Nat.le_add_right _ _)) h2
theorem string_len {s : ByteArray} : s.data.toList.length = s.size := by rw [Array.length_toList]; rfl
end Go.Proofs.YthbljhmjppjcjaaDoor.Z
end

section
-- Printed by a program of this session (mp.py): what a reading gives of the kinds that are arguments.
namespace Go.Proofs.YthbljhmjppjcjaaDoor.Z
open Go.ChangeShapes Go.WideShapes Go.ChangeAt Go.RowKit Go.Deep Go.Proofs.YthbljhmjppjcjaaDoorW.PrintWords
set_option linter.unusedVariables false
def G32 (x : S32) : Prop := x.f0.size ≤ maxLen ∧ x.f1.size ≤ maxLen
def B32 (x : S32) : Nat := (x.f0.size + 1) + (x.f1.size + 1) + 1
theorem opens32 : Opens Tryd.prog 32 k32 G32 B32 := by
  refine ⟨by kernel_rfl, fun {H enc w base spare held fuel cs x} h => ?_⟩
  obtain ⟨ys, n, hl, hy, hx, hf⟩ := flat_fields Tryd.underlying32 (by kernel_rfl) (by kernel_rfl) h
  match cs, hl with
  | [c0, c1], _ =>
    match ys, hy with
    | [y0, y1], _ =>
      obtain ⟨a0, k0, g0, b0⟩ := (Opens.string Tryd.underlying9 (by kernel_rfl)).2 (hf 0 _ c0 rfl rfl)
      obtain ⟨a1, k1, g1, b1⟩ := (Opens.string Tryd.underlying9 (by kernel_rfl)).2 (hf 1 _ c1 rfl rfl)
      refine ⟨⟨a0, a1⟩, ⟨[c0], [c1], rfl, k0, k1⟩, ⟨g0, g1⟩, ?_⟩
      rw [hx]
      simp only [Rows.uptoBulk, Rows.uptoBulkAll, List.map_cons, List.map_nil, B32]
      dsimp only at b0 b1
      omega
end Go.Proofs.YthbljhmjppjcjaaDoor.Z
end

section
/- TopWritten, over lists: the law's function answers true. -/
namespace Go.Proofs.YthbljhmjppjcjaaDoor.Pure
open Go.RowKit Go.Proofs.YthbljhmjppjcjaaDoor Go.Proofs.YthbljhmjppjcjaaDoor.Z Go.Proofs.YthbljhmjppjcjaaDoorW.PrintWords
set_option linter.unusedVariables false
set_option linter.unusedSimpArgs false
/-- What is written of an item. -/
def dat (x : It) : ByteArray := ((x.f0 ++ (⟨#[46]⟩ : ByteArray)) ++ x.f1) ++ (⟨#[46]⟩ : ByteArray)
theorem trim_dat (x : It) : trimB (dat x) = dat x := by
  have h : (dat x).data.toList = ((x.f0 ++ (⟨#[46]⟩ : ByteArray)) ++ x.f1).data.toList ++ [46] := by
    unfold dat
    rw [ByteArray.data_append, Array.toList_append]
  unfold trimB
  rw [h, trimL_snoc, if_neg (by decide), ← h]
theorem dat_size (x : It) : (dat x).size = x.f0.size + x.f1.size + 2 := by
  unfold dat
  simp only [ByteArray.size_append]
  show x.f0.size + 1 + x.f1.size + 1 = _
  omega
def dj (l : List It) (j : Nat) : ByteArray := match l[j]? with | some x => dat x | none => ⟨#[]⟩
theorem dj_at (l : List It) (j : Nat) (h : j < l.length) : dj l j = dat l[j] := by
  unfold dj
  rw [List.getElem?_eq_getElem h]
/-- What waits: the items from a on, c of them. -/
def wl (l : List It) (a c : Nat) : List Bk := (List.range' a c).map (fun (j : Nat) => (⟨(j : Int), dj l j⟩ : Bk))
theorem wl_cons (l : List It) (a c : Nat) : wl l a (c + 1) = ⟨(a : Int), dj l a⟩ :: wl l (a + 1) c := by
  unfold wl
  rw [List.range'_succ, List.map_cons]
theorem wl_snoc (l : List It) (a c : Nat) : wl l a (c + 1) = wl l a c ++ [⟨((a + c : Nat) : Int), dj l (a + c)⟩] := by
  unfold wl
  rw [List.range'_concat, List.map_append, List.map_singleton, Nat.one_mul]
theorem wl_len (l : List It) (a c : Nat) : (wl l a c).length = c := by simp [wl]
theorem kept_read (l : List It) (n : Nat) : ∀ (c a : Nat) (bl : List Bk) (ks : List Bool), Asc bl →
    readL bl (kept (wl l a c) ks) (n : Int) = if a ≤ n ∧ n < a + c ∧ ks.getD (n - a) false = true then dj l n else has bl (n : Int) := by
  intro c
  induction c with
  | zero =>
    intro a bl ks h
    rw [show kept (wl l a 0) ks = [] by cases ks <;> rfl, readL_nil, if_neg (by omega)]
  | succ c ih =>
    intro a bl ks h
    cases ks with
    | nil =>
      rw [show kept (wl l a (c + 1)) [] = [] by rw [wl_cons]; rfl, readL_nil, if_neg (by simp)]
    | cons t ks =>
      rw [wl_cons]
      unfold kept
      by_cases ht : t = true
      · rw [if_pos ht, readL_cons h, ih (a + 1) _ ks (asc_put h), has_put h]
        by_cases hn : n = a
        · subst hn
          rw [if_neg (by omega), if_pos rfl, if_pos ⟨Nat.le_refl _, by omega, by simp [ht]⟩]
        · rw [if_neg (show ¬ ((n : Int) = (a : Int)) by omega)]
          by_cases hlt : a + 1 ≤ n
          · have e : (t :: ks).getD (n - a) false = ks.getD (n - (a + 1)) false := by
              rw [show n - a = (n - (a + 1)) + 1 by omega, List.getD_cons_succ]
            rw [e]
            by_cases hc : a + 1 ≤ n ∧ n < a + 1 + c ∧ ks.getD (n - (a + 1)) false = true
            · rw [if_pos hc, if_pos ⟨by omega, by omega, hc.2.2⟩]
            · rw [if_neg hc, if_neg (fun h' => hc ⟨hlt, by omega, h'.2.2⟩)]
          · rw [if_neg (by omega), if_neg (by omega)]
      · rw [if_neg ht, ih (a + 1) bl ks h]
        by_cases hn : n = a
        · subst hn
          rw [if_neg (by omega), if_neg (by simp [ht])]
        · by_cases hlt : a + 1 ≤ n
          · have e : (t :: ks).getD (n - a) false = ks.getD (n - (a + 1)) false := by
              rw [show n - a = (n - (a + 1)) + 1 by omega, List.getD_cons_succ]
            rw [e]
            by_cases hc : a + 1 ≤ n ∧ n < a + 1 + c ∧ ks.getD (n - (a + 1)) false = true
            · rw [if_pos hc, if_pos ⟨by omega, by omega, hc.2.2⟩]
            · rw [if_neg hc, if_neg (fun h' => hc ⟨hlt, by omega, h'.2.2⟩)]
          · rw [if_neg (by omega), if_neg (by omega)]
/-- The device, when i items were written, the first s of them flushed. -/
structure Inv (l : List It) (i s : Nat) (bl w : List Bk) : Prop where
  le : s ≤ i
  ok : okDev 16 bl w
  wt : w = wl l s (i - s)
  hb : ∀ n : Nat, has bl (n : Int) = if n < s then dj l n else ⟨#[]⟩
/-- The device behind the crash. -/
structure Fin (l : List It) (s : Nat) (keep : List Bool) (B : List Bk) : Prop where
  ok : okDev 16 B []
  hb : ∀ n : Nat, n < l.length → n < 16 → has B (n : Int) = if n < s ∨ keep.getD (n - s) false = true then dj l n else ⟨#[]⟩
theorem rdB (ks : List Bool) (n : Nat) (h : n < ks.length) : rdOf false ks (n : Int) = ks.getD n false := by
  unfold rdOf
  rw [Int.toNat_natCast]
theorem tw_l1 (l : List It) (hl : okL l = true) (hlen : l.length ≤ 4398046511104) (s : Nat) (hs : s ≤ 16) (keep : List Bool) (hk : keep.length ≤ maxLen) (B : List Bk) (hF : Fin l s keep B) : ∀ d i : Nat, l.length = i + d → i ≤ 16 →
    Ev (fun k => cambiumtop_TopWritten.l1 k l keep (s : Int) 0 l (l.length : Int) (i : Int) 16 B [] false (-1)) true := by
  intro d
  induction d with
  | zero =>
    intro i hi h16
    refine Ev.step (fun k => by rw [cambiumtop_TopWritten.l1]) ?_
    exact Ev.ifn (by omega) (Ev.const rfl)
  | succ d ih =>
    intro i hi h16
    have hil : i < l.length := by omega
    have hasc := ((okL_iff l).1 hl).2
    have hx := ((okL_iff l).1 hl).1 _ (List.getElem_mem hil)
    refine Ev.step (fun k => by rw [cambiumtop_TopWritten.l1]) ?_
    rw [ird_get l i hil]
    refine Ev.ifp (by omega) (Ev.ifp (by omega) (Ev.ifp (by omega) ?_))
    by_cases h6 : i = 16
    · exact Ev.ifp (by omega) (Ev.const rfl)
    · have hr := read_ok hF.ok false (-1) ((i : Int) % 4294967296)
      have hv := hF.hb i hil (by omega)
      rw [show (i : Int) % 4294967296 = (i : Int) by omega] at hr ⊢
      have hrs : readS 16 B [] false (i : Int) = (has B (i : Int), 0) := by
        unfold readS
        rw [if_neg (by decide), if_neg (by omega), readL_nil]
      rw [hrs] at hr
      have hg := itGet l hlen (l[i]).f0
      have hgs : getS l (l[i]).f0.toList = ((l[i]).f1, 0) := by
        unfold getS
        rw [if_pos hl, show Z.look l (l[i]).f0.toList = some (l[i]).f1 from look_at hasc i hil]
      rw [hgs] at hg
      have z := dat_size l[i]
      have hsz : (l[i]).f0.size ≤ 48 ∧ (l[i]).f1.size ≤ 160 := by
        simp [okI, okK] at hx
        omega
      have e46 : (⟨#[46]⟩ : ByteArray).size = 1 := rfl
      have next := ih (i + 1) (by omega) (by omega)
      rw [show ((i + 1 : Nat) : Int) = wrap64 ((i : Int) + 1) by rw [w64 (by omega) (by omega)]; omega] at next
      refine Ev.ifn (by omega) (Ev.bind hr (Ev.bind hg (Ev.ifp (by omega) (Ev.ifp (by simp only [ByteArray.size_append, e46]; omega) (Ev.ifp (by simp only [ByteArray.size_append, e46]; omega) ?_)))))
      have hdd : (((l[i].f0 ++ (⟨#[46]⟩ : ByteArray)) ++ l[i].f1) ++ (⟨#[46]⟩ : ByteArray)) = dat l[i] := rfl
      simp only [hdd]
      have hdn : ¬ (dat l[i]).toList = [] := by rw [toList_nil, z]; omega
      have hnd : ((⟨#[]⟩ : ByteArray).toList == (dat l[i]).toList) = false := by
        rw [beq_eq_false_iff_ne]
        exact fun e => hdn (e.symm.trans (toList_nil.2 rfl))
      rw [dj_at l i hil] at hv
      by_cases hlt : i < s
      · rw [if_pos (.inl hlt)] at hv
        rw [hv]
        refine Ev.ifn (by omega) (Ev.ifp trivial (Ev.ifp trivial (Ev.ifp (by omega) (Ev.ifn (by simp) (Ev.ifp rfl next)))))
      · have ew : wrap64 ((i : Int) - (s : Int)) = ((i - s : Nat) : Int) := by rw [w64 (by omega) (by omega)]; omega
        rw [ew]
        refine Ev.ifp (by omega) ?_
        by_cases hkl : i - s < keep.length
        · refine Ev.ifp (by omega) (Ev.ifp (by omega) (Ev.ifp trivial (Ev.ifp trivial (Ev.ifn (by omega) ?_))))
          rw [rdB keep _ hkl]
          by_cases hkt : keep.getD (i - s) false = true
          · rw [if_pos (.inr hkt)] at hv
            rw [hv, hkt]
            exact Ev.ifn (by simp) (Ev.ifp rfl next)
          · rw [if_neg (fun h => h.elim hlt hkt)] at hv
            rw [hv, show keep.getD (i - s) false = false by simpa using hkt, hnd]
            exact Ev.ifn (by decide) (Ev.ifn (fun e => hdn (e.symm.trans (toList_nil.2 rfl))) (Ev.ifp (toList_nil.2 rfl) next))
        · have hkt : ¬ keep.getD (i - s) false = true := by
            rw [List.getD_eq_getElem?_getD, List.getElem?_eq_none (by omega)]
            simp
          rw [if_neg (fun h => h.elim hlt hkt)] at hv
          rw [hv, hnd]
          refine Ev.ifn (by omega) (Ev.ifp trivial (Ev.ifp trivial (Ev.ifn (by omega) ?_)))
          exact Ev.ifn (by decide) (Ev.ifn (fun e => hdn (e.symm.trans (toList_nil.2 rfl))) (Ev.ifp (toList_nil.2 rfl) next))
theorem tw_j1 (l : List It) (hl : okL l = true) (hlen : l.length ≤ 4398046511104) (keep : List Bool) (hk : keep.length ≤ maxLen) (i s : Nat) (bl w : List Bk) (hI : Inv l i s bl w) (h16 : i ≤ 16) (hi : i = 16 ∨ i = l.length) :
    Ev (fun k => cambiumtop_TopWritten.j1 k l keep (s : Int) 16 bl w false (-1)) true := by
  refine Ev.step (fun k => by rw [cambiumtop_TopWritten.j1]) ?_
  have hc := crash_ok hI.ok false (-1) keep
  have hle := hI.le
  have hF : Fin l s keep (putsL bl (kept w keep)) := by
    refine ⟨okDev_crash hI.ok keep, fun n hn h6 => ?_⟩
    have ha : Asc bl := hI.ok.2.2.2.1.1
    rw [has_puts _ ha, hI.wt, kept_read l n _ _ bl keep ha, hI.hb n]
    by_cases h1 : n < s
    · rw [if_neg (by omega), if_pos h1, if_pos (.inl h1)]
    · by_cases h2 : keep.getD (n - s) false = true
      · rw [if_pos ⟨by omega, by omega, h2⟩, if_pos (.inr h2)]
      · rw [if_neg (fun h => h2 h.2.2), if_neg h1, if_neg (fun h => h.elim h1 h2)]
  exact Ev.bind hc (tw_l1 l hl hlen s (by omega) keep hk _ hF l.length 0 (by omega) (by omega))
theorem tw_l0 (l : List It) (hl : okL l = true) (hlen : l.length ≤ 4398046511104) (fl keep : List Bool) (hf : fl.length ≤ maxLen) (hk : keep.length ≤ maxLen) : ∀ d i : Nat, l.length = i + d → i ≤ 16 → ∀ (s : Nat) (bl w : List Bk), Inv l i s bl w →
    Ev (fun k => cambiumtop_TopWritten.l0 k l fl keep (s : Int) l (l.length : Int) (i : Int) 16 bl w false (-1)) true := by
  intro d
  induction d with
  | zero =>
    intro i hi h16 s bl w hI
    refine Ev.step (fun k => by rw [cambiumtop_TopWritten.l0]) ?_
    exact Ev.ifn (by omega) (tw_j1 l hl hlen keep hk i s bl w hI h16 (.inr (by omega)))
  | succ d ih =>
    intro i hi h16 s bl w hI
    have hil : i < l.length := by omega
    have hx := ((okL_iff l).1 hl).1 _ (List.getElem_mem hil)
    refine Ev.step (fun k => by rw [cambiumtop_TopWritten.l0]) ?_
    rw [ird_get l i hil]
    refine Ev.ifp (by omega) (Ev.ifp (by omega) (Ev.ifp (by omega) ?_))
    by_cases h6 : i = 16
    · exact Ev.ifp (by omega) (tw_j1 l hl hlen keep hk i s bl w hI h16 (.inl h6))
    · have h32 : (i : Int) % 4294967296 = (i : Int) := by omega
      have z := dat_size l[i]
      have hsz : (l[i]).f0.size ≤ 48 ∧ (l[i]).f1.size ≤ 160 := by
        simp [okI, okK] at hx
        omega
      have e46 : (⟨#[46]⟩ : ByteArray).size = 1 := rfl
      have hdd : (((l[i].f0 ++ (⟨#[46]⟩ : ByteArray)) ++ l[i].f1) ++ (⟨#[46]⟩ : ByteArray)) = dat l[i] := rfl
      have hsz1 := hsz.1
      have hsz2 := hsz.2
      have s1 : ¬ (i : Int) = 16 := by omega
      have s2 : (l[i]).f0.size + 1 ≤ 9223372036854775807 := by omega
      have s3 : ((l[i]).f0 ++ (⟨#[46]⟩ : ByteArray)).size + (l[i]).f1.size ≤ 9223372036854775807 := by rw [ByteArray.size_append, e46]; omega
      have s4 : (((l[i]).f0 ++ (⟨#[46]⟩ : ByteArray)) ++ (l[i]).f1).size + 1 ≤ 9223372036854775807 := by rw [ByteArray.size_append, ByteArray.size_append, e46]; omega
      have hwl : w.length = i - s := by rw [hI.wt, wl_len]
      have hw := write_ok hI.ok false (-1) (i : Int) (dat l[i])
      have h1d : downOf false (-1) = false := by decide
      have h1f : fuseOf (-1) = -1 := by decide
      have hws : writeS 16 bl w false (-1) (i : Int) (dat l[i]) = (16, bl, w ++ [⟨(i : Int), dat l[i]⟩], false, -1, 0) := by
        unfold writeS
        rw [if_neg (by decide), if_neg (by omega), if_neg (by omega), if_neg (by omega), trim_dat, h1d, h1f]
        simp only [if_neg (show ¬ (false = true) by decide)]
      rw [hws] at hw
      have hle := hI.le
      have hok : okDev 16 bl (w ++ [⟨(i : Int), dat l[i]⟩]) := by
        have := okDev_write hI.ok (n := (i : Int)) (by omega) false (-1) (dat l[i])
        rw [hws] at this
        exact this
      have hI' : Inv l (i + 1) s bl (w ++ [⟨(i : Int), dat l[i]⟩]) := by
        refine ⟨by omega, hok, ?_, hI.hb⟩
        rw [hI.wt, show i + 1 - s = (i - s) + 1 by omega, wl_snoc, show s + (i - s) = i by omega, dj_at l i hil]
      have ew : wrap64 ((i : Int) + 1) = ((i + 1 : Nat) : Int) := by rw [w64 (by omega) (by omega)]; omega
      rw [h32]
      simp only [hdd, ew]
      clear ew
      refine Ev.ifn s1 (Ev.ifp s2 (Ev.ifp s3 (Ev.ifp s4 (Ev.bind hw ?_))))
      have next := ih (i + 1) (by omega) (by omega) s bl _ hI'
      refine Ev.ite (fun _ => Ev.ite (fun _ => ?_) (fun _ => next)) (fun _ => next)
      have hfl := flush_ok hok false (-1)
      have hfs : flushS 16 bl (w ++ [⟨(i : Int), dat l[i]⟩]) false (-1) = (16, putsL bl (w ++ [⟨(i : Int), dat l[i]⟩]), [], false, -1, 0) := by
        unfold flushS
        rw [if_neg (by decide), h1d, h1f, if_neg (by decide)]
      rw [hfs] at hfl
      refine Ev.bind hfl (ih (i + 1) (by omega) (by omega) (i + 1) _ [] ⟨Nat.le_refl _, ?_, ?_, fun n => ?_⟩)
      · have := okDev_flush hok false (-1)
        rw [hfs] at this
        exact this
      · rw [show i + 1 - (i + 1) = 0 by omega]
        rfl
      · have ha : Asc bl := hok.2.2.2.1.1
        have hka : kept (w ++ [⟨(i : Int), dat l[i]⟩]) (List.replicate 16 true) = w ++ [⟨(i : Int), dat l[i]⟩] := kept_all _ _ (by rw [List.length_append, hwl, List.length_singleton]; omega)
        rw [has_puts _ ha, ← hka, hI'.wt, kept_read l n _ _ bl _ ha, hI.hb n]
        by_cases h1 : n < s
        · rw [if_neg (by omega), if_pos h1, if_pos (by omega)]
        · by_cases h2 : n < i + 1
          · rw [if_pos ⟨by omega, by omega, by rw [List.getD_eq_getElem?_getD, List.getElem?_replicate, if_pos (by omega)]; rfl⟩, if_pos h2]
          · rw [if_neg (by omega), if_neg h1, if_neg h2]
theorem TopWritten : ∀ (l0 : List (S32)) (l1 : List Bool) (l2 : List Bool), l0.length ≤ maxLen → (∀ x ∈ l0, Z.G32 x) → l0.length * 32 ≤ 140737488351232 → l1.length ≤ maxLen → (∀ x ∈ l1, (fun _ : Bool => True) x) → l1.length * 1 ≤ 140737488351232 → l2.length ≤ maxLen → (∀ x ∈ l2, (fun _ : Bool => True) x) → l2.length * 1 ≤ 140737488351232 → ∃ k, Z.cambiumtop_TopWritten.f k l0 l1 l2 = some true := by
  intro l fl keep _ _ hz hf _ _ hk _ _
  refine Ev.rounds (g := fun k => Z.cambiumtop_TopWritten.f k l fl keep) ?_
  unfold cambiumtop_TopWritten.f
  refine Ev.bindc rfl (Ev.ifp rfl (Ev.bind (itCheck l (by omega)) ?_))
  cases hl : okL l with
  | false => exact Ev.ifn (by unfold ckS; decide) (Ev.const rfl)
  | true =>
    refine Ev.ifp rfl (tw_l0 l hl (by omega) fl keep hf hk l.length 0 (by omega) (by omega) 0 [] [] ⟨Nat.le_refl _, ?_, rfl, fun n => ?_⟩)
    · exact ⟨by decide, by decide, by simp, ⟨List.Pairwise.nil, by simp⟩, by simp⟩
    · rw [if_neg (by omega)]
      rfl
end Go.Proofs.YthbljhmjppjcjaaDoor.Pure
end

section
/- cambium/cambiumtop.TopWritten: at every input the law's function returns true, and each argument reads afterwards as before. Conditions: none beyond the row's own. Printed by a program of this session (mp.py) over the pure statement in YthbljhmjppjcjaaDoorPureTopWritten. -/
namespace Go.Proofs.YthbljhmjppjcjaaDoor.topWritten
open Go.ChangeShapes Go.WideShapes Go.ChangeAt Go.RowKit
open Go.ChangeMaps (open_string shut_string)
set_option linter.unusedVariables false
set_option linter.unusedSimpArgs false
theorem own : ownKnob Tryd.prog.godebug = none := by kernel_rfl
theorem laidOut : laidOutB Tryd.prog = true := by kernel_rfl
def lay0 : Obj → Obj
  | .cells _ t frozen => .cells (((Pinned.numbers IntKind.u8 Pinned.utf8FirstZ : List (DataW Unit)).map (fun x => match x with | .lit (.int k v) => Value.int k v | _ => .int .u8 0)).toArray) t frozen
  | o => o
def lay1 : Obj → Obj
  | .cells _ t frozen => .cells #[.int .u8 128, .int .u8 191, .int .u8 160, .int .u8 191, .int .u8 128, .int .u8 159, .int .u8 144, .int .u8 191, .int .u8 128, .int .u8 143, .int .u8 0, .int .u8 0, .int .u8 0, .int .u8 0, .int .u8 0, .int .u8 0, .int .u8 0, .int .u8 0, .int .u8 0, .int .u8 0, .int .u8 0, .int .u8 0, .int .u8 0, .int .u8 0, .int .u8 0, .int .u8 0, .int .u8 0, .int .u8 0, .int .u8 0, .int .u8 0, .int .u8 0, .int .u8 0] t frozen
  | o => o
noncomputable def laidWorld (os : Os) : World :=
  { World.holding Tryd.prog os ⟨#[], #[], []⟩ with heap := ((World.holding Tryd.prog os ⟨#[], #[], []⟩).heap.modify 0 lay0).modify 1 lay1 }
theorem laid_met (os : Os) : laidMet Tryd.prog Rows.topWrittenRow.laid ((laidWorld os).forCall (fun _ _ => 0) ⟨#[], #[.slice none 0 0, .slice none 0 0, .slice none 0 0], []⟩).memory :=
  laidMet_of_run' 8 (by kernel_rfl) (by kernel_rfl)
theorem reads (os : Os) {H : Type} (enc : TypeId × Value → H) : ∃ places, DataW.whole enc Tryd.prog ((laidWorld os).forCall (fun _ _ => 0) ⟨#[], #[.slice none 0 0, .slice none 0 0, .slice none 0 0], []⟩).memory Tryd.f3.params.toList Rows.topWrittenSpec.vars false (#[.slice none 0 0, .slice none 0 0, .slice none 0 0] : Array Value).toList 8 = some ([.nil, .nil, .nil], [], places) :=
  ⟨[], by kernel_rfl⟩
set_option maxHeartbeats 1000000 in
set_option maxRecDepth 100000 in
theorem lifted (os : Os) (started : os.Started) (H : Type) (enc : TypeId × Value → H) (F : Stop.Interp) :
    ReturnsInHanded {} Tryd.checked os 3 .any ((OpenSpec.ofChange Rows.topWrittenSpec).preRow enc Tryd.prog Tryd.f3 Rows.topWrittenRow.domain false Rows.topWrittenRow.laid) (((OpenSpec.ofChange Rows.topWrittenSpec).at F).post enc Tryd.prog Tryd.f3 false true false false) := by
  obtain ⟨places, hx⟩ := reads os enc
  refine returnsInHanded_of_row (C := Tryd.checked) (s := OpenSpec.ofChange Rows.topWrittenSpec) own started (by kernel_rfl) Tryd.func3
    (witness_row_at (enc := enc) (C := Tryd.checked) false (laidWorld os) #[.slice none 0 0, .slice none 0 0, .slice none 0 0] rfl (by kernel_rfl) (by kernel_rfl) (by kernel_rfl)
      (OpenSpec.preRow_of_cond 8 hx (by kernel_rfl) (fun k hk => by cases hk) (by kernel_rfl) (laid_met os))) ?_
  intro W base args ds gs before hval0 hW hcn0_ hcnd hwz_ _ _ _
  have hsz : (DataW.weightsEach Tryd.prog (Tryd.f3.params.toList ++ Rows.topWrittenSpec.plain.varTypes Tryd.prog) (ds ++ gs)).all (· ≤ reachBytes) = true := hwz_
  have hval : ∀ (j : Nat) t v, Tryd.f3.params[j]? = some t → args[j]? = some v → Value.okWide Tryd.prog W .any base t v := hval0
  have hW' := hW
  obtain ⟨p, q, hA0, hV, rfl, hfz, hnd⟩ := hW
  have hA : DataW.TrodAll enc Tryd.prog W 0 (fun _ => true) true Tryd.f3.params.toList args.toList ds p := hA0
  rw [Tryd.params3] at hA hval hsz
  obtain ⟨v0, vs0, d0, ds0, p0, q0, hargs, rfl, rfl, h0, r0⟩ := trodAll_cons hA
  obtain ⟨v1, vs1, d1, ds1, p1, q1, rfl, rfl, rfl, h1, r1⟩ := trodAll_cons r0
  obtain ⟨v2, vs2, d2, ds2, p2, q2, rfl, rfl, rfl, h2, r2⟩ := trodAll_cons r1
  obtain ⟨rfl, rfl, rfl⟩ := trodAll_nil r2
  obtain rfl : args = #[v0, v1, v2] := by cases args; simp_all
  obtain ⟨rfl, rfl⟩ := trodVars_none hV
  have k0 := h0
  have lt0 : ∀ x ∈ p0, x.block < W.heap.size := by obtain ⟨m, hm⟩ := k0; exact DataW.trod_lt m _ _ _ hm
  obtain ⟨a0, len0, cap0, rfl⟩ := okWide_slice Tryd.underlying22 (hval 0 22 v0 rfl rfl)
  obtain ⟨fuel0, hf0⟩ := h0
  obtain ⟨A0, c0, l0, hcs0, hlc0, hcm0, hC0, hG0, hB0, hx0⟩ := Z.Opens.row Tryd.underlying22 Z.opens32 (of_decide_eq_true (by kernel_rfl)) hf0
  simp only [Value.cells, List.cons.injEq, Value.slice.injEq, and_true] at hcs0
  obtain ⟨rfl, rfl, rfl⟩ := hcs0
  have hlm0 : l0.length ≤ maxLen := Nat.le_trans hlc0 hcm0
  have hsz0 : l0.length * 32 ≤ 140737488351232 := Z.sized_row hsz (j := 0) (t := 22) rfl rfl Tryd.underlying22 (by kernel_rfl) hx0
  have k1 := h1
  have lt1 : ∀ x ∈ p1, x.block < W.heap.size := by obtain ⟨m, hm⟩ := k1; exact DataW.trod_lt m _ _ _ hm
  obtain ⟨a1, len1, cap1, rfl⟩ := okWide_slice Tryd.underlying23 (hval 1 23 v1 rfl rfl)
  obtain ⟨fuel1, hf1⟩ := h1
  obtain ⟨A1, c1, l1, hcs1, hlc1, hcm1, hC1, hG1, hB1, hx1⟩ := Z.Opens.row Tryd.underlying23 (Z.Opens.bool Tryd.underlying4 (by kernel_rfl)) (of_decide_eq_true (by kernel_rfl)) hf1
  simp only [Value.cells, List.cons.injEq, Value.slice.injEq, and_true] at hcs1
  obtain ⟨rfl, rfl, rfl⟩ := hcs1
  have hlm1 : l1.length ≤ maxLen := Nat.le_trans hlc1 hcm1
  have hsz1 : l1.length * 1 ≤ 140737488351232 := Z.sized_row hsz (j := 1) (t := 23) rfl rfl Tryd.underlying23 (by kernel_rfl) hx1
  have k2 := h2
  have lt2 : ∀ x ∈ p2, x.block < W.heap.size := by obtain ⟨m, hm⟩ := k2; exact DataW.trod_lt m _ _ _ hm
  obtain ⟨a2, len2, cap2, rfl⟩ := okWide_slice Tryd.underlying23 (hval 2 23 v2 rfl rfl)
  obtain ⟨fuel2, hf2⟩ := h2
  obtain ⟨A2, c2, l2, hcs2, hlc2, hcm2, hC2, hG2, hB2, hx2⟩ := Z.Opens.row Tryd.underlying23 (Z.Opens.bool Tryd.underlying4 (by kernel_rfl)) (of_decide_eq_true (by kernel_rfl)) hf2
  simp only [Value.cells, List.cons.injEq, Value.slice.injEq, and_true] at hcs2
  obtain ⟨rfl, rfl, rfl⟩ := hcs2
  have hlm2 : l2.length ≤ maxLen := Nat.le_trans hlc2 hcm2
  have hsz2 : l2.length * 1 ≤ 140737488351232 := Z.sized_row hsz (j := 2) (t := 23) rfl rfl Tryd.underlying23 (by kernel_rfl) hx2
  have hP := Pure.TopWritten l0 l1 l2 hlm0 hG0 hsz0 hlm1 hG1 hsz1 hlm2 hG2 hsz2
  obtain ⟨k, hk⟩ := hP
  refine (Z.cambiumtop_TopWritten.calls k _ _ l0 _ _ l1 _ _ l2 true W hC0 hlc0 hC1 hlc1 hC2 hlc2 hk).mono fun e W' ⟨he, bel0⟩ => ?_
  have bel : Below W.heap.size W W' := bel0
  subst he
  exact ⟨_, rfl, _, _, _, [], _, [], hW', trodAll_mk1 (shut_bool Tryd.underlying4 _), (trodAll_cons_mk (Below.trod laidOut (by kernel_rfl) (of_decide_eq_true (by kernel_rfl)) k0 bel lt0) (trodAll_cons_mk (Below.trod laidOut (by kernel_rfl) (of_decide_eq_true (by kernel_rfl)) k1 bel lt1) (trodAll_cons_mk (Below.trod laidOut (by kernel_rfl) (of_decide_eq_true (by kernel_rfl)) k2 bel lt2) trodAll_mk0))), rfl, bel.frame _, fun h => by cases h⟩
theorem over : Rows.TopWrittenSaid :=
  OpenClaim.holds_of_cond 3 Tryd.f3 rfl rfl rfl rfl rfl rfl rfl ⟨rfl, rfl, rfl, rfl, rfl⟩ rfl rfl rfl rfl rfl (by kernel_rfl) Tryd.func3 (by kernel_rfl)
    (of_decide_eq_true (by kernel_rfl)) (by unfold Func.isWrapper; first | (rw [if_pos (by decide +kernel)]; kernel_rfl) | (rw [if_neg (by decide +kernel)]; exact ⟨rfl, rfl⟩))
    (fun os started H enc _ F => by rw [OpenClaim.pre_eq_preRow]; exact lifted os started H enc F)
theorem plain (f : FuncId) (fn : Func) (hf : Tryd.pinned.checked.prog.funcNamed "cambium/cambiumtop.TopWritten" = some f) (hfn : Tryd.pinned.checked.prog.funcs[f]? = some fn) :
    false = Tryd.pinned.checked.prog.looks [] ∧ ∀ (j : Nat) t, fn.params[j]? = some t → Tryd.pinned.checked.prog.wantsStandIn t = false := by
  obtain rfl : f = 3 := Option.some.inj ((show Tryd.prog.funcNamed "cambium/cambiumtop.TopWritten" = some 3 by kernel_rfl).symm.trans hf) |>.symm
  obtain rfl : fn = Tryd.f3 := (Option.some.inj (Tryd.func3.symm.trans hfn)).symm
  refine ⟨by kernel_rfl, fun j t ht => ?_⟩
  rw [Tryd.params3] at ht
  have hm := Array.mem_of_getElem? ht
  simp only [List.mem_toArray, List.mem_cons, List.not_mem_nil, or_false] at hm
  rcases hm with rfl | rfl | rfl <;> exact (show Tryd.prog.wantsStandIn _ = false by kernel_rfl)
theorem card : Rows.TopWrittenCardSaid :=
  Claim7.holds_tied_plain_at .later [] _ _ _ _ over (fun _ h => by cases h) (by kernel_rfl) (fun _ h => by cases h) topWritten_row_tie rfl ⟨rfl, rfl⟩ (by kernel_rfl) rfl plain (by kernel_rfl)
end Go.Proofs.YthbljhmjppjcjaaDoor.topWritten
namespace Go.Proofs.YthbljhmjppjcjaaDoor
theorem topWritten_holds : Rows.TopWrittenCardSaid := topWritten.card
#print axioms topWritten_holds
end Go.Proofs.YthbljhmjppjcjaaDoor
end
