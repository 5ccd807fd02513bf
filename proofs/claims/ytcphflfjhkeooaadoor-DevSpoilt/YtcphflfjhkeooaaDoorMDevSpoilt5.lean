/- DevSpoilt: at every input the law's function returns true and leaves its arguments as they were; no condition beyond the row's own. Part 5 of 5: this session's own texts, laid together. -/
import Derived.Test.YtcphflfjhkeooaaDoorMB1
import Derived.Test.YtcphflfjhkeooaaDoorMB4
import Derived.Test.YtcphflfjhkeooaaDoorMB3
import Derived.Test.YtcphflfjhkeooaaDoorCards
import Derived.Test.YtcphflfjhkeooaaDoorTie
import Derived.Deep.DeepHandedRow
import Derived.WalkKit
import Derived.ProofKit
import Derived.OpenShut
import Derived.ShutString
import Derived.ChangeOld
import Derived.Below
import Derived.SizedLaws
import Derived.Carry
section
-- Printed by a program of this session (mp.py) out of the translation.
namespace Go.Proofs.YtcphflfjhkeooaaDoor.Z
open Go.RowKit Go.Proofs.YtcphflfjhkeooaaDoorW.PrintWords Go.Proofs.YtcphflfjhkeooaaDoorW.PrintLast Go.Proofs.YtcphflfjhkeooaaDoorW.PrintMore
attribute [local go_sem] max2_int min2_int max_two min_two max_three min_three max_four min_four   -- for this text's walks alone
set_option linter.unusedVariables false
set_option linter.unusedSimpArgs false

/-! ### cambiumlaw03_DevSpoilt: function 11 -/
mutual
def cambiumlaw03_DevSpoilt.j0 : Nat → Int → ByteArray → Int → Bool → Int → List (S39) → List (S39) → Bool → Int → Int → List (S39) → List (S39) → Bool → Int → Option (Bool)
  | 0, _, _, _, _, _, _, _, _, _, _, _, _, _, _ => none
  | k + 1, x1, x2, x3, x33, x582000, x582001, x582002, x582003, x582004, x594000, x594001, x594002, x594003, x594004 => if x33 = true then (some true) else ((dev_Read.f k x582000 x582001 x582002 x582003 x582004 x3).bind fun bt594 => ((dev_Read.f k x594000 x594001 x594002 x594003 x594004 x3).bind fun bt596 => (if bt594.2 = bt596.2 then (if x3 = x1 then (cambiumlaw03_DevSpoilt.j1 k x1 x2 false x582000 x582001 x582002 x582003 x582004 x594000 x594001 x594002 x594003 x594004) else (cambiumlaw03_DevSpoilt.j1 k x1 x2 (bt594.1.toList != bt596.1.toList) x582000 x582001 x582002 x582003 x582004 x594000 x594001 x594002 x594003 x594004)) else (cambiumlaw03_DevSpoilt.j1 k x1 x2 true x582000 x582001 x582002 x582003 x582004 x594000 x594001 x594002 x594003 x594004))))
def cambiumlaw03_DevSpoilt.j1 : Nat → Int → ByteArray → Bool → Int → List (S39) → List (S39) → Bool → Int → Int → List (S39) → List (S39) → Bool → Int → Option (Bool)
  | 0, _, _, _, _, _, _, _, _, _, _, _, _, _ => none
  | k + 1, x1, x2, x58, x582000, x582001, x582002, x582003, x582004, x594000, x594001, x594002, x594003, x594004 => if x58 = true then (some false) else (cambiumlaw03_DevSpoilt.l0 k x1 x2 x582002 (x582002.length : Int) 0 x594000 x594001 x594002 x594003 x594004)
def cambiumlaw03_DevSpoilt.l0 : Nat → Int → ByteArray → List (S39) → Int → Int → Int → List (S39) → List (S39) → Bool → Int → Option (Bool)
  | 0, _, _, _, _, _, _, _, _, _, _ => none
  | k + 1, x1, x2, x60, x61, x62, x594000, x594001, x594002, x594003, x594004 => if x62 < x61 then (if 0 ≤ x62 then (if x62 < (x60.length : Int) then (if ((rd_T39 x60 x62).f0) = x1 then (some true) else (cambiumlaw03_DevSpoilt.l0 k x1 x2 x60 x61 (wrap64 (x62 + 1)) x594000 x594001 x594002 x594003 x594004)) else (none)) else (none)) else ((dev_Read.f k x594000 x594001 x594002 x594003 x594004 x1).bind fun bt600 => (if bt600.2 = 0 then ((cambiumref03_Cut.f k x2).bind fun t602 => (some (bt600.1.toList == t602.toList))) else (some false)))
end
def cambiumlaw03_DevSpoilt.f (k : Nat) (a0_0 : Int) (l0_1 : List (S39)) (l0_2 : List (S39)) (a0_3 : Bool) (a0_4 : Int) (a1 : Int) (a2 : ByteArray) (a3 : Int) : Option (Bool) := (cambiumlaw03_lives.f k).bind fun t582 => (if t582 = true then ((dev_Spoil.f k a0_0 l0_1 l0_2 a0_3 a0_4 a1 a2).bind fun bt583 => (if bt583.2.2.2.2.2 = 0 then (cambiumlaw03_DevSpoilt.j0 k a1 a2 a3 a0_3 a0_0 l0_1 l0_2 a0_3 a0_4 bt583.1 bt583.2.1 bt583.2.2.1 bt583.2.2.2.1 bt583.2.2.2.2.1) else (cambiumlaw03_DevSpoilt.j0 k a1 a2 a3 true a0_0 l0_1 l0_2 a0_3 a0_4 bt583.1 bt583.2.1 bt583.2.2.1 bt583.2.2.2.1 bt583.2.2.2.2.1))) else (some false))
theorem cambiumlaw03_DevSpoilt.mono_l : ∀ k, (∀ y0 y1 y2 y3 y4 y5 y6 y7 y8 y9 y10 y11 y12 y13, LeO (cambiumlaw03_DevSpoilt.j0 k y0 y1 y2 y3 y4 y5 y6 y7 y8 y9 y10 y11 y12 y13) (cambiumlaw03_DevSpoilt.j0 (k + 1) y0 y1 y2 y3 y4 y5 y6 y7 y8 y9 y10 y11 y12 y13)) ∧ (∀ y0 y1 y2 y3 y4 y5 y6 y7 y8 y9 y10 y11 y12, LeO (cambiumlaw03_DevSpoilt.j1 k y0 y1 y2 y3 y4 y5 y6 y7 y8 y9 y10 y11 y12) (cambiumlaw03_DevSpoilt.j1 (k + 1) y0 y1 y2 y3 y4 y5 y6 y7 y8 y9 y10 y11 y12)) ∧ (∀ y0 y1 y2 y3 y4 y5 y6 y7 y8 y9, LeO (cambiumlaw03_DevSpoilt.l0 k y0 y1 y2 y3 y4 y5 y6 y7 y8 y9) (cambiumlaw03_DevSpoilt.l0 (k + 1) y0 y1 y2 y3 y4 y5 y6 y7 y8 y9))
  | 0 => ⟨fun _ _ _ _ _ _ _ _ _ _ _ _ _ _ r h => by simp [cambiumlaw03_DevSpoilt.j0] at h, fun _ _ _ _ _ _ _ _ _ _ _ _ _ r h => by simp [cambiumlaw03_DevSpoilt.j1] at h, fun _ _ _ _ _ _ _ _ _ _ r h => by simp [cambiumlaw03_DevSpoilt.l0] at h⟩
  | k + 1 => by
    obtain ⟨ih0, ih1, ih2⟩ := cambiumlaw03_DevSpoilt.mono_l k
    refine ⟨?_, ?_, ?_⟩
    · intro y0 y1 y2 y3 y4 y5 y6 y7 y8 y9 y10 y11 y12 y13
      unfold cambiumlaw03_DevSpoilt.j0
      repeat' first
      | (with_reducible exact ih0 _ _ _ _ _ _ _ _ _ _ _ _ _ _)
      | (with_reducible exact ih1 _ _ _ _ _ _ _ _ _ _ _ _ _)
      | (with_reducible exact ih2 _ _ _ _ _ _ _ _ _ _)
      | (with_reducible exact cambiumlaw03_lives.mono _)
      | (with_reducible exact cambiumref03_Cut.mono _ _)
      | (with_reducible exact dev_Read.mono _ _ _ _ _ _ _)
      | (with_reducible exact dev_Spoil.mono _ _ _ _ _ _ _ _)
      | (with_reducible exact LeO.refl _)
      | (with_reducible exact LeO.none _)
      | (with_reducible refine LeO.ite ?_ ?_)
      | (with_reducible refine LeO.bind ?_ (fun _ => ?_))
      | exact ih0 _ _ _ _ _ _ _ _ _ _ _ _ _ _
      | exact ih1 _ _ _ _ _ _ _ _ _ _ _ _ _
      | exact ih2 _ _ _ _ _ _ _ _ _ _
      | exact cambiumlaw03_lives.mono _
      | exact cambiumref03_Cut.mono _ _
      | exact dev_Read.mono _ _ _ _ _ _ _
      | exact dev_Spoil.mono _ _ _ _ _ _ _ _
      | exact LeO.none _
      | refine LeO.ite ?_ ?_
      | refine LeO.bind ?_ (fun _ => ?_)
    · intro y0 y1 y2 y3 y4 y5 y6 y7 y8 y9 y10 y11 y12
      unfold cambiumlaw03_DevSpoilt.j1
      repeat' first
      | (with_reducible exact ih0 _ _ _ _ _ _ _ _ _ _ _ _ _ _)
      | (with_reducible exact ih1 _ _ _ _ _ _ _ _ _ _ _ _ _)
      | (with_reducible exact ih2 _ _ _ _ _ _ _ _ _ _)
      | (with_reducible exact cambiumlaw03_lives.mono _)
      | (with_reducible exact cambiumref03_Cut.mono _ _)
      | (with_reducible exact dev_Read.mono _ _ _ _ _ _ _)
      | (with_reducible exact dev_Spoil.mono _ _ _ _ _ _ _ _)
      | (with_reducible exact LeO.refl _)
      | (with_reducible exact LeO.none _)
      | (with_reducible refine LeO.ite ?_ ?_)
      | (with_reducible refine LeO.bind ?_ (fun _ => ?_))
      | exact ih0 _ _ _ _ _ _ _ _ _ _ _ _ _ _
      | exact ih1 _ _ _ _ _ _ _ _ _ _ _ _ _
      | exact ih2 _ _ _ _ _ _ _ _ _ _
      | exact cambiumlaw03_lives.mono _
      | exact cambiumref03_Cut.mono _ _
      | exact dev_Read.mono _ _ _ _ _ _ _
      | exact dev_Spoil.mono _ _ _ _ _ _ _ _
      | exact LeO.none _
      | refine LeO.ite ?_ ?_
      | refine LeO.bind ?_ (fun _ => ?_)
    intro y0 y1 y2 y3 y4 y5 y6 y7 y8 y9
    unfold cambiumlaw03_DevSpoilt.l0
    repeat' first
    | (with_reducible exact ih0 _ _ _ _ _ _ _ _ _ _ _ _ _ _)
    | (with_reducible exact ih1 _ _ _ _ _ _ _ _ _ _ _ _ _)
    | (with_reducible exact ih2 _ _ _ _ _ _ _ _ _ _)
    | (with_reducible exact cambiumlaw03_lives.mono _)
    | (with_reducible exact cambiumref03_Cut.mono _ _)
    | (with_reducible exact dev_Read.mono _ _ _ _ _ _ _)
    | (with_reducible exact dev_Spoil.mono _ _ _ _ _ _ _ _)
    | (with_reducible exact LeO.refl _)
    | (with_reducible exact LeO.none _)
    | (with_reducible refine LeO.ite ?_ ?_)
    | (with_reducible refine LeO.bind ?_ (fun _ => ?_))
    | exact ih0 _ _ _ _ _ _ _ _ _ _ _ _ _ _
    | exact ih1 _ _ _ _ _ _ _ _ _ _ _ _ _
    | exact ih2 _ _ _ _ _ _ _ _ _ _
    | exact cambiumlaw03_lives.mono _
    | exact cambiumref03_Cut.mono _ _
    | exact dev_Read.mono _ _ _ _ _ _ _
    | exact dev_Spoil.mono _ _ _ _ _ _ _ _
    | exact LeO.none _
    | refine LeO.ite ?_ ?_
    | refine LeO.bind ?_ (fun _ => ?_)
theorem cambiumlaw03_DevSpoilt.mono : ∀ a0 a1 a2 a3 a4 a5 a6 a7 k, LeO (cambiumlaw03_DevSpoilt.f k a0 a1 a2 a3 a4 a5 a6 a7) (cambiumlaw03_DevSpoilt.f (k + 1) a0 a1 a2 a3 a4 a5 a6 a7) := by
  intro a0 a1 a2 a3 a4 a5 a6 a7 k
  obtain ⟨ih0, ih1, ih2⟩ := cambiumlaw03_DevSpoilt.mono_l k
  unfold cambiumlaw03_DevSpoilt.f
  repeat' first
      | (with_reducible exact ih0 _ _ _ _ _ _ _ _ _ _ _ _ _ _)
      | (with_reducible exact ih1 _ _ _ _ _ _ _ _ _ _ _ _ _)
      | (with_reducible exact ih2 _ _ _ _ _ _ _ _ _ _)
      | (with_reducible exact cambiumlaw03_lives.mono _)
      | (with_reducible exact cambiumref03_Cut.mono _ _)
      | (with_reducible exact dev_Read.mono _ _ _ _ _ _ _)
      | (with_reducible exact dev_Spoil.mono _ _ _ _ _ _ _ _)
      | (with_reducible exact LeO.refl _)
      | (with_reducible exact LeO.none _)
      | (with_reducible refine LeO.ite ?_ ?_)
      | (with_reducible refine LeO.bind ?_ (fun _ => ?_))
      | exact ih0 _ _ _ _ _ _ _ _ _ _ _ _ _ _
      | exact ih1 _ _ _ _ _ _ _ _ _ _ _ _ _
      | exact ih2 _ _ _ _ _ _ _ _ _ _
      | exact cambiumlaw03_lives.mono _
      | exact cambiumref03_Cut.mono _ _
      | exact dev_Read.mono _ _ _ _ _ _ _
      | exact dev_Spoil.mono _ _ _ _ _ _ _ _
      | exact LeO.none _
      | refine LeO.ite ?_ ?_
      | refine LeO.bind ?_ (fun _ => ?_)
set_option maxHeartbeats 8000000 in
set_option maxRecDepth 100000 in
theorem cambiumlaw03_DevSpoilt.calls (k : Nat) (a0_0 : Int) (A0_1 : Option Addr) (c0_1 : Nat) (l0_1 : List (S39)) (A0_2 : Option Addr) (c0_2 : Nat) (l0_2 : List (S39)) (a0_3 : Bool) (a0_4 : Int) (a1 : Int) (a2 : ByteArray) (a3 : Int) (r : Bool) (w : World) (hr0_1 : Kd.C k39 w A0_1 l0_1.length l0_1) (hc0_1 : l0_1.length ≤ c0_1) (hr0_2 : Kd.C k39 w A0_2 l0_2.length l0_2) (hc0_2 : l0_2.length ≤ c0_2) (h : cambiumlaw03_DevSpoilt.f k a0_0 l0_1 l0_2 a0_3 a0_4 a1 a2 a3 = some r) (hT_ : r = true := by rfl) :
    Calls Tryd.prog 11 #[.agg #[.int .u32 a0_0, .slice A0_1 l0_1.length c0_1, .slice A0_2 l0_2.length c0_2, .bool a0_3, .int .i64 a0_4], .int .u32 a1, .string a2, .int .u32 a3] w fun e w' => e = .returned (.bool r) ∧ Below w.heap.size w w' := by
  have HT_ := Aside0.mk hT_
  clear hT_
  have hu25 := Tryd.underlying25
  have hu39 := Tryd.underlying39
  have HR0_1 := Aside0.mk hr0_1
  have HC0_1 := Aside0.mk hc0_1
  clear hr0_1 hc0_1
  have HR0_2 := Aside0.mk hr0_2
  have HC0_2 := Aside0.mk hc0_2
  clear hr0_2 hc0_2
  have HB := Aside0.mk (Below.refl w.heap.size w)
  have H : ((cambiumlaw03_lives.f k).bind fun t582 => (if t582 = true then ((dev_Spoil.f k a0_0 l0_1 l0_2 a0_3 a0_4 a1 a2).bind fun bt583 => (if bt583.2.2.2.2.2 = 0 then (cambiumlaw03_DevSpoilt.j0 k a1 a2 a3 a0_3 a0_0 l0_1 l0_2 a0_3 a0_4 bt583.1 bt583.2.1 bt583.2.2.1 bt583.2.2.2.1 bt583.2.2.2.2.1) else (cambiumlaw03_DevSpoilt.j0 k a1 a2 a3 true a0_0 l0_1 l0_2 a0_3 a0_4 bt583.1 bt583.2.1 bt583.2.2.1 bt583.2.2.2.1 bt583.2.2.2.2.1))) else (some false))) = some r := h
  clear h
  replace H := Option.bind_eq_some_iff.mp H
  obtain ⟨t582, A50, H⟩ := H
  replace H : (if t582 = true then ((dev_Spoil.f k a0_0 l0_1 l0_2 a0_3 a0_4 a1 a2).bind fun bt583 => (if bt583.2.2.2.2.2 = 0 then (cambiumlaw03_DevSpoilt.j0 k a1 a2 a3 a0_3 a0_0 l0_1 l0_2 a0_3 a0_4 bt583.1 bt583.2.1 bt583.2.2.1 bt583.2.2.2.1 bt583.2.2.2.2.1) else (cambiumlaw03_DevSpoilt.j0 k a1 a2 a3 true a0_0 l0_1 l0_2 a0_3 a0_4 bt583.1 bt583.2.1 bt583.2.2.1 bt583.2.2.2.1 bt583.2.2.2.2.1))) else (some false)) = some r := H
  have A5 := Aside0.mk A50
  clear A50
  by_cases c6 : t582 = true
  · subst c6
    have H1 : ((dev_Spoil.f k a0_0 l0_1 l0_2 a0_3 a0_4 a1 a2).bind fun bt583 => (if bt583.2.2.2.2.2 = 0 then (cambiumlaw03_DevSpoilt.j0 k a1 a2 a3 a0_3 a0_0 l0_1 l0_2 a0_3 a0_4 bt583.1 bt583.2.1 bt583.2.2.1 bt583.2.2.2.1 bt583.2.2.2.2.1) else (cambiumlaw03_DevSpoilt.j0 k a1 a2 a3 true a0_0 l0_1 l0_2 a0_3 a0_4 bt583.1 bt583.2.1 bt583.2.2.1 bt583.2.2.2.1 bt583.2.2.2.2.1))) = some r := by rw [if_pos rfl] at H; exact H
    clear H
    have H := H1
    clear H1
    replace H := Option.bind_eq_some_iff.mp H
    obtain ⟨⟨t583, t584, t587, t590, t591, t592⟩, A70, H⟩ := H
    replace H : (if t592 = 0 then (cambiumlaw03_DevSpoilt.j0 k a1 a2 a3 a0_3 a0_0 l0_1 l0_2 a0_3 a0_4 t583 t584 t587 t590 t591) else (cambiumlaw03_DevSpoilt.j0 k a1 a2 a3 true a0_0 l0_1 l0_2 a0_3 a0_4 t583 t584 t587 t590 t591)) = some r := H
    have A7 := Aside0.mk A70
    clear A70
    have HC8 := Aside0.mk H
    clear H
    go_enter Tryd.func11, Tryd.ntmps11
    go_upto_region 4 with (first | ((with_reducible refine gate_dst (N := 4) rfl ?_); refine box_event ?hg (N := 4) ?hd (cs := #[.int .u32 a0_0, .slice A0_1 l0_1.length c0_1, .slice A0_2 l0_2.length c0_2, .bool a0_3, .int .i64 a0_4]) (t := 25) ?hr ?_; (case hd => rfl); (case hg => rfl); (case hr => first | (go_simp; done) | (go_simp; rfl)); intro gb581 hg w9 hbox hb; have n0_ := Aside0.mk (below_step (by repeat (first | (with_reducible first | exact HB.out | apply below_alloc | apply pw_below_drewN | apply below_drew1) | exact HB.out)) hb); have n1_ := Aside0.mk (hbox); have n2_ := Aside0.mk ((by rw [hg]; exact (below_size (by repeat (first | (with_reducible first | exact HB.out | apply below_alloc | apply pw_below_drewN | apply below_drew1) | exact HB.out))) : w.heap.size ≤ gb581)); have n3_ := Aside0.mk ((by rw [hg]; exact (below_size (by repeat (first | (with_reducible first | exact HB.out | apply below_alloc | apply pw_below_drewN | apply below_drew1) | exact HB.out))) : w.heap.size ≤ gb581)); clear HB; have HB := n0_; have BK581 := n1_; have GW581 := n2_; have GE581 := n3_; clear n0_ n1_ n2_ n3_; clear hb hbox hg) | ((with_reducible refine gate_callee (f := 19) rfl ?_); refine goesL_ (some 19) rfl rfl Tryd.func19 (by kernel_rfl) rfl #[] rfl (by (try simp only [List.map_toArray, List.map_cons, List.map_nil]); first | done | rfl | (simp only [List.length_drop, List.length_take]; rfl)) ?_; (with_reducible refine (cambiumlaw03_lives.calls k  true _ A5.out).mono ?_); rintro e w10 ⟨rfl, hb⟩; refine ⟨_, rfl, ?_⟩; have n0_ := Aside0.mk (blk_below (g := gb581) (o := .cells #[.int .u32 a0_0, .slice A0_1 l0_1.length c0_1, .slice A0_2 l0_2.length c0_2, .bool a0_3, .int .i64 a0_4] 25 (0, 0)) (by (with_reducible repeat (first | refine blk_drewN ?_ _ | refine blk_drew ?_ | refine blk_alloc ?_ _)); exact BK581.out) hb); have n1_ := Aside0.mk (below_step (by repeat (first | (with_reducible first | exact HB.out | apply below_alloc | apply pw_below_drewN | apply below_drew1 | refine below_set ?_ GE581.out) | exact HB.out)) hb); clear BK581; clear HB; have BK581 := n0_; have HB := n1_; clear n0_ n1_; (try clear hb); (try clear hb2); (try clear hk); (try clear hi); have hcz11_0 : w10.cell? ⟨gb581, 0, none⟩ = some (.int .u32 a0_0) := (blk_cell BK581.out 0).trans rfl; have hcz11_1 : w10.cell? ⟨gb581, 1, none⟩ = some (.slice A0_1 l0_1.length c0_1) := (blk_cell BK581.out 1).trans rfl; have hcz11_2 : w10.cell? ⟨gb581, 2, none⟩ = some (.slice A0_2 l0_2.length c0_2) := (blk_cell BK581.out 2).trans rfl; have hcz11_3 : w10.cell? ⟨gb581, 3, none⟩ = some (.bool a0_3) := (blk_cell BK581.out 3).trans rfl; have hcz11_4 : w10.cell? ⟨gb581, 4, none⟩ = some (.int .i64 a0_4) := (blk_cell BK581.out 4).trans rfl; have hfz11_0 := blk_frozen BK581.out 0; have hfz11_1 := blk_frozen BK581.out 1; have hfz11_2 := blk_frozen BK581.out 2; have hfz11_3 := blk_frozen BK581.out 3; have hfz11_4 := blk_frozen BK581.out 4) | ((with_reducible refine gate_callee (f := 26) rfl ?_); refine goesL_ (some 25) rfl rfl Tryd.func26 (by kernel_rfl) rfl #[.agg #[.int .u32 a0_0, .slice A0_1 l0_1.length c0_1, .slice A0_2 l0_2.length c0_2, .bool a0_3, .int .i64 a0_4], .int .u32 a1, .string a2] rfl (by (try simp only [List.map_toArray, List.map_cons, List.map_nil]); first | done | rfl | (simp only [List.length_drop, List.length_take]; rfl)) ?_; (with_reducible refine (dev_Spoil.calls k a0_0 _ _ l0_1 _ _ l0_2 a0_3 a0_4 a1 a2 t583 t584 t587 t590 t591 t592 _ ?side1 ?side2 ?side3 ?side4 A7.out).mono ?_); (case side1 => repeat (first | exact (Kd.C_below HR0_1.out HB.out) | (with_reducible refine Kd.C_alloc ?_ _) | (with_reducible refine Kd.C_drewN ?_ _) | (with_reducible refine Kd.C_drew ?_))); (case side2 => exact HC0_1.out); (case side3 => repeat (first | exact (Kd.C_below HR0_2.out HB.out) | (with_reducible refine Kd.C_alloc ?_ _) | (with_reducible refine Kd.C_drewN ?_ _) | (with_reducible refine Kd.C_drew ?_))); (case side4 => exact HC0_2.out); rintro e w12 ⟨v585, v588, rfl, ho0, ho1, hb⟩; refine ⟨_, rfl, ?_⟩; have n0_ := Aside0.mk (Kd.R_lower ho0 (below_size (by repeat (first | (with_reducible first | exact HB.out | apply below_alloc | apply pw_below_drewN | apply below_drew1 | refine below_set ?_ GE581.out) | exact HB.out)))); have n1_ := Aside0.mk (Kd.R_lower ho1 (below_size (by repeat (first | (with_reducible first | exact HB.out | apply below_alloc | apply pw_below_drewN | apply below_drew1 | refine below_set ?_ GE581.out) | exact HB.out)))); have n2_ := Aside0.mk (blk_below (g := gb581) (o := .cells #[.int .u32 a0_0, .slice A0_1 l0_1.length c0_1, .slice A0_2 l0_2.length c0_2, .bool a0_3, .int .i64 a0_4] 25 (0, 0)) (by (with_reducible repeat (first | refine blk_drewN ?_ _ | refine blk_drew ?_ | refine blk_alloc ?_ _)); exact BK581.out) hb); have n3_ := Aside0.mk (below_step (by repeat (first | (with_reducible first | exact HB.out | apply below_alloc | apply pw_below_drewN | apply below_drew1 | refine below_set ?_ GE581.out) | exact HB.out)) hb); clear BK581; clear HB; have HO586 := n0_; have HO589 := n1_; have BK581 := n2_; have HB := n3_; clear n0_ n1_ n2_ n3_; (try clear hb); (try clear hb2); (try clear hk); (try clear hi); (try clear ho0); (try clear ho1)) | ((with_reducible refine gate_dst (N := 9) rfl ?_); refine box_event ?hg (N := 9) ?hd (cs := #[.int .u32 0, .slice none 0 0, .slice none 0 0, .bool false, .int .i64 0]) (t := 25) ?hr ?_; (case hd => rfl); (case hg => rfl); (case hr => first | (go_simp; done) | (go_simp; rfl)); intro gb593 hg w13 hbox hb; have n0_ := Aside0.mk (Kd.R_below (by (with_reducible repeat (first | apply Kd.R_alloc | apply Kd.R_drewN | apply Kd.R_drew)); exact HO586.out) hb); have n1_ := Aside0.mk (Kd.R_below (by (with_reducible repeat (first | apply Kd.R_alloc | apply Kd.R_drewN | apply Kd.R_drew)); exact HO589.out) hb); have n2_ := Aside0.mk (blk_below (g := gb581) (o := .cells #[.int .u32 a0_0, .slice A0_1 l0_1.length c0_1, .slice A0_2 l0_2.length c0_2, .bool a0_3, .int .i64 a0_4] 25 (0, 0)) (by (with_reducible repeat (first | refine blk_drewN ?_ _ | refine blk_drew ?_ | refine blk_alloc ?_ _)); exact BK581.out) hb); have n3_ := Aside0.mk (below_step (by repeat (first | (with_reducible first | exact HB.out | apply below_alloc | apply pw_below_drewN | apply below_drew1 | refine below_set ?_ GE581.out) | exact HB.out)) hb); have n4_ := Aside0.mk (hbox); have n5_ := Aside0.mk ((by rw [hg]; exact (below_size (by repeat (first | (with_reducible first | exact HB.out | apply below_alloc | apply pw_below_drewN | apply below_drew1 | refine below_set ?_ GE581.out) | exact HB.out))) : w.heap.size ≤ gb593)); have n6_ := Aside0.mk ((by rw [hg]; exact (below_size (by repeat (first | (with_reducible first | exact HB.out | apply below_alloc | apply pw_below_drewN | apply below_drew1 | refine below_set ?_ GE581.out) | exact HB.out))) : w.heap.size ≤ gb593)); have n7_ := Aside0.mk ((by rw [hg]; exact Nat.ne_of_lt (blk_lt (g := gb581) (o := .cells #[.int .u32 a0_0, .slice A0_1 l0_1.length c0_1, .slice A0_2 l0_2.length c0_2, .bool a0_3, .int .i64 a0_4] 25 (0, 0)) (by (with_reducible repeat (first | refine blk_drewN ?_ _ | refine blk_drew ?_ | refine blk_alloc ?_ _)); exact BK581.out)) : gb581 ≠ gb593)); have n8_ := Aside0.mk ((by rw [hg]; exact Nat.ne_of_gt (blk_lt (g := gb581) (o := .cells #[.int .u32 a0_0, .slice A0_1 l0_1.length c0_1, .slice A0_2 l0_2.length c0_2, .bool a0_3, .int .i64 a0_4] 25 (0, 0)) (by (with_reducible repeat (first | refine blk_drewN ?_ _ | refine blk_drew ?_ | refine blk_alloc ?_ _)); exact BK581.out)) : gb593 ≠ gb581)); clear HO586; clear HO589; clear BK581; clear HB; have HO586 := n0_; have HO589 := n1_; have BK581 := n2_; have HB := n3_; have BK593 := n4_; have GW593 := n5_; have GE593 := n6_; have NB581_593 := n7_; have NB593_581 := n8_; clear n0_ n1_ n2_ n3_ n4_ n5_ n6_ n7_ n8_; clear hb hbox hg; have hnb14 := NB593_581.out; have hnc14 := NB581_593.out; have hcz15_0 : w13.cell? ⟨gb593, 0, none⟩ = some (.int .u32 0) := (blk_cell BK593.out 0).trans rfl; have hcz15_1 : w13.cell? ⟨gb593, 1, none⟩ = some (.slice none 0 0) := (blk_cell BK593.out 1).trans rfl; have hcz15_2 : w13.cell? ⟨gb593, 2, none⟩ = some (.slice none 0 0) := (blk_cell BK593.out 2).trans rfl; have hcz15_3 : w13.cell? ⟨gb593, 3, none⟩ = some (.bool false) := (blk_cell BK593.out 3).trans rfl; have hcz15_4 : w13.cell? ⟨gb593, 4, none⟩ = some (.int .i64 0) := (blk_cell BK593.out 4).trans rfl; have hfz15_0 := blk_frozen BK593.out 0; have hfz15_1 := blk_frozen BK593.out 1; have hfz15_2 := blk_frozen BK593.out 2; have hfz15_3 := blk_frozen BK593.out 3; have hfz15_4 := blk_frozen BK593.out 4; obtain ⟨Ao16, co16, eo16⟩ := Kd.R_slice HO586.out; subst eo16; obtain ⟨Ao17, co17, eo17⟩ := Kd.R_slice HO589.out; subst eo17))
    (try simp only [Act.put, List.setIfInBounds_toArray, List.set_cons_zero, List.set_cons_succ])
    go_cut [33] (fun v33 wc => ∃ (kq : Nat) (x33_7 : Bool), v33 = .bool x33_7 ∧ Aside0 (cambiumlaw03_DevSpoilt.j0 kq a1 a2 a3 x33_7 a0_0 l0_1 l0_2 a0_3 a0_4 t583 t584 t587 t590 t591 = some r) ∧ Aside0 (kq ≤ k) ∧ Aside0 (Kd.R k39 39 wc w.heap.size (fun k_ => some k_ ≠ ((.slice Ao17 t587.length co17) : Value).ownBlock) (.slice Ao16 t584.length co16) t584) ∧ Aside0 (Kd.R k39 39 wc w.heap.size (fun k_ => some k_ ≠ ((.slice Ao16 t584.length co16) : Value).ownBlock) (.slice Ao17 t587.length co17) t587) ∧ Aside0 (wc.heap[gb581]? = some (.cells #[.int .u32 a0_0, (.slice A0_1 l0_1.length c0_1), (.slice A0_2 l0_2.length c0_2), .bool a0_3, .int .i64 a0_4] 25 (0, 0))) ∧ Aside0 (wc.heap[gb593]? = some (.cells #[.int .u32 t583, (.slice Ao16 t584.length co16), (.slice Ao17 t587.length co17), .bool t590, .int .i64 t591] 25 (0, 0))) ∧ Aside0 (Below w.heap.size w wc))
    case first =>
      have H := HC8.out
      clear HC8
      by_cases c18 : t592 = 0
      · rw [if_pos c18] at H
        have c18b0 : (t592 == 0) = true := beq_iff_eq.mpr c18
        have c18b1 : (t592 != 0) = false := bne_eq_false_iff_eq.mpr c18
        clear c18
        (first | rw [c18b0] | (simp only [i64_w, i32_w]; rw [c18b0]) | skip)
        have H' := Aside0.mk H
        clear H
        have hnb19 := NB581_593.out
        have hnc19 := NB593_581.out
        have hcz20_0 : w13.cell? ⟨gb581, 0, none⟩ = some (.int .u32 a0_0) := (blk_cell BK581.out 0).trans rfl
        have hcz20_1 : w13.cell? ⟨gb581, 1, none⟩ = some (.slice A0_1 l0_1.length c0_1) := (blk_cell BK581.out 1).trans rfl
        have hcz20_2 : w13.cell? ⟨gb581, 2, none⟩ = some (.slice A0_2 l0_2.length c0_2) := (blk_cell BK581.out 2).trans rfl
        have hcz20_3 : w13.cell? ⟨gb581, 3, none⟩ = some (.bool a0_3) := (blk_cell BK581.out 3).trans rfl
        have hcz20_4 : w13.cell? ⟨gb581, 4, none⟩ = some (.int .i64 a0_4) := (blk_cell BK581.out 4).trans rfl
        have hfz20_0 := blk_frozen BK581.out 0
        have hfz20_1 := blk_frozen BK581.out 1
        have hfz20_2 := blk_frozen BK581.out 2
        have hfz20_3 := blk_frozen BK581.out 3
        have hfz20_4 := blk_frozen BK581.out 4
        go_wp2
        go_meet
        case rel => exact ⟨_, (a0_3), (by first | rfl | (simp; done) | (simp [*]; done)), H', ⟨by first | omega | exact Nat.le_refl _⟩, ⟨by (with_reducible repeat (first | apply Kd.R_alloc | apply Kd.R_drewN | apply Kd.R_drew)); exact Kd.R_mono (Kd.R_far (p := ⟨gb593, 4, none⟩) (Kd.R_far (p := ⟨gb593, 3, none⟩) (Kd.R_far (p := ⟨gb593, 2, none⟩) (Kd.R_far (p := ⟨gb593, 1, none⟩) (Kd.R_far (p := ⟨gb593, 0, none⟩) (Kd.R_types HO586.out BK593.out (by decide)) (fun _ hk => hk.2) (.int .u32 t583)) (fun _ hk => hk.2) (.slice Ao16 t584.length co16)) (fun _ hk => hk.2) (.slice Ao17 t587.length co17)) (fun _ hk => hk.2) (.bool t590)) (fun _ hk => hk.2) (.int .i64 t591)) (fun _ hk => hk.1)⟩, ⟨by (with_reducible repeat (first | apply Kd.R_alloc | apply Kd.R_drewN | apply Kd.R_drew)); exact Kd.R_mono (Kd.R_far (p := ⟨gb593, 4, none⟩) (Kd.R_far (p := ⟨gb593, 3, none⟩) (Kd.R_far (p := ⟨gb593, 2, none⟩) (Kd.R_far (p := ⟨gb593, 1, none⟩) (Kd.R_far (p := ⟨gb593, 0, none⟩) (Kd.R_types HO589.out BK593.out (by decide)) (fun _ hk => hk.2) (.int .u32 t583)) (fun _ hk => hk.2) (.slice Ao16 t584.length co16)) (fun _ hk => hk.2) (.slice Ao17 t587.length co17)) (fun _ hk => hk.2) (.bool t590)) (fun _ hk => hk.2) (.int .i64 t591)) (fun _ hk => hk.1)⟩, ⟨by (with_reducible repeat (first | refine blk_drewN ?_ _ | refine blk_drew ?_ | refine blk_alloc ?_ _)); refine blk_far ?_ NB581_593.out _; (with_reducible repeat (first | refine blk_drewN ?_ _ | refine blk_drew ?_ | refine blk_alloc ?_ _)); refine blk_far ?_ NB581_593.out _; (with_reducible repeat (first | refine blk_drewN ?_ _ | refine blk_drew ?_ | refine blk_alloc ?_ _)); refine blk_far ?_ NB581_593.out _; (with_reducible repeat (first | refine blk_drewN ?_ _ | refine blk_drew ?_ | refine blk_alloc ?_ _)); refine blk_far ?_ NB581_593.out _; (with_reducible repeat (first | refine blk_drewN ?_ _ | refine blk_drew ?_ | refine blk_alloc ?_ _)); refine blk_far ?_ NB581_593.out _; (with_reducible repeat (first | refine blk_drewN ?_ _ | refine blk_drew ?_ | refine blk_alloc ?_ _)); exact BK581.out⟩, ⟨by (with_reducible repeat (first | refine blk_drewN ?_ _ | refine blk_drew ?_ | refine blk_alloc ?_ _)); refine blk_put (cs := #[.int .u32 t583, .slice Ao16 t584.length co16, .slice Ao17 t587.length co17, .bool t590, .int .i64 0]) ?_ 4 _ rfl; (with_reducible repeat (first | refine blk_drewN ?_ _ | refine blk_drew ?_ | refine blk_alloc ?_ _)); refine blk_put (cs := #[.int .u32 t583, .slice Ao16 t584.length co16, .slice Ao17 t587.length co17, .bool false, .int .i64 0]) ?_ 3 _ rfl; (with_reducible repeat (first | refine blk_drewN ?_ _ | refine blk_drew ?_ | refine blk_alloc ?_ _)); refine blk_put (cs := #[.int .u32 t583, .slice Ao16 t584.length co16, .slice none 0 0, .bool false, .int .i64 0]) ?_ 2 _ rfl; (with_reducible repeat (first | refine blk_drewN ?_ _ | refine blk_drew ?_ | refine blk_alloc ?_ _)); refine blk_put (cs := #[.int .u32 t583, .slice none 0 0, .slice none 0 0, .bool false, .int .i64 0]) ?_ 1 _ rfl; (with_reducible repeat (first | refine blk_drewN ?_ _ | refine blk_drew ?_ | refine blk_alloc ?_ _)); refine blk_put (cs := #[.int .u32 0, .slice none 0 0, .slice none 0 0, .bool false, .int .i64 0]) ?_ 0 _ rfl; (with_reducible repeat (first | refine blk_drewN ?_ _ | refine blk_drew ?_ | refine blk_alloc ?_ _)); exact BK593.out⟩, ⟨by repeat (first | (with_reducible first | exact HB.out | apply below_alloc | apply pw_below_drewN | apply below_drew1 | refine below_set ?_ GE581.out | refine below_set ?_ GE593.out) | exact HB.out)⟩⟩
      rw [if_neg c18] at H
      have c18b0 : (t592 == 0) = false := beq_eq_false_iff_ne.mpr c18
      have c18b1 : (t592 != 0) = true := bne_iff_ne.mpr c18
      (first | rw [c18b0] | (simp only [i64_w, i32_w]; rw [c18b0]) | skip)
      have H' := Aside0.mk H
      clear H
      go_wp2
      go_meet
      case rel => exact ⟨_, (true), (by first | rfl | (simp; done) | (simp [*]; done)), H', ⟨by first | omega | exact Nat.le_refl _⟩, ⟨by (with_reducible repeat (first | apply Kd.R_alloc | apply Kd.R_drewN | apply Kd.R_drew)); exact Kd.R_mono (Kd.R_far (p := ⟨gb593, 4, none⟩) (Kd.R_far (p := ⟨gb593, 3, none⟩) (Kd.R_far (p := ⟨gb593, 2, none⟩) (Kd.R_far (p := ⟨gb593, 1, none⟩) (Kd.R_far (p := ⟨gb593, 0, none⟩) (Kd.R_types HO586.out BK593.out (by decide)) (fun _ hk => hk.2) (.int .u32 t583)) (fun _ hk => hk.2) (.slice Ao16 t584.length co16)) (fun _ hk => hk.2) (.slice Ao17 t587.length co17)) (fun _ hk => hk.2) (.bool t590)) (fun _ hk => hk.2) (.int .i64 t591)) (fun _ hk => hk.1)⟩, ⟨by (with_reducible repeat (first | apply Kd.R_alloc | apply Kd.R_drewN | apply Kd.R_drew)); exact Kd.R_mono (Kd.R_far (p := ⟨gb593, 4, none⟩) (Kd.R_far (p := ⟨gb593, 3, none⟩) (Kd.R_far (p := ⟨gb593, 2, none⟩) (Kd.R_far (p := ⟨gb593, 1, none⟩) (Kd.R_far (p := ⟨gb593, 0, none⟩) (Kd.R_types HO589.out BK593.out (by decide)) (fun _ hk => hk.2) (.int .u32 t583)) (fun _ hk => hk.2) (.slice Ao16 t584.length co16)) (fun _ hk => hk.2) (.slice Ao17 t587.length co17)) (fun _ hk => hk.2) (.bool t590)) (fun _ hk => hk.2) (.int .i64 t591)) (fun _ hk => hk.1)⟩, ⟨by (with_reducible repeat (first | refine blk_drewN ?_ _ | refine blk_drew ?_ | refine blk_alloc ?_ _)); refine blk_far ?_ NB581_593.out _; (with_reducible repeat (first | refine blk_drewN ?_ _ | refine blk_drew ?_ | refine blk_alloc ?_ _)); refine blk_far ?_ NB581_593.out _; (with_reducible repeat (first | refine blk_drewN ?_ _ | refine blk_drew ?_ | refine blk_alloc ?_ _)); refine blk_far ?_ NB581_593.out _; (with_reducible repeat (first | refine blk_drewN ?_ _ | refine blk_drew ?_ | refine blk_alloc ?_ _)); refine blk_far ?_ NB581_593.out _; (with_reducible repeat (first | refine blk_drewN ?_ _ | refine blk_drew ?_ | refine blk_alloc ?_ _)); refine blk_far ?_ NB581_593.out _; (with_reducible repeat (first | refine blk_drewN ?_ _ | refine blk_drew ?_ | refine blk_alloc ?_ _)); exact BK581.out⟩, ⟨by (with_reducible repeat (first | refine blk_drewN ?_ _ | refine blk_drew ?_ | refine blk_alloc ?_ _)); refine blk_put (cs := #[.int .u32 t583, .slice Ao16 t584.length co16, .slice Ao17 t587.length co17, .bool t590, .int .i64 0]) ?_ 4 _ rfl; (with_reducible repeat (first | refine blk_drewN ?_ _ | refine blk_drew ?_ | refine blk_alloc ?_ _)); refine blk_put (cs := #[.int .u32 t583, .slice Ao16 t584.length co16, .slice Ao17 t587.length co17, .bool false, .int .i64 0]) ?_ 3 _ rfl; (with_reducible repeat (first | refine blk_drewN ?_ _ | refine blk_drew ?_ | refine blk_alloc ?_ _)); refine blk_put (cs := #[.int .u32 t583, .slice Ao16 t584.length co16, .slice none 0 0, .bool false, .int .i64 0]) ?_ 2 _ rfl; (with_reducible repeat (first | refine blk_drewN ?_ _ | refine blk_drew ?_ | refine blk_alloc ?_ _)); refine blk_put (cs := #[.int .u32 t583, .slice none 0 0, .slice none 0 0, .bool false, .int .i64 0]) ?_ 1 _ rfl; (with_reducible repeat (first | refine blk_drewN ?_ _ | refine blk_drew ?_ | refine blk_alloc ?_ _)); refine blk_put (cs := #[.int .u32 0, .slice none 0 0, .slice none 0 0, .bool false, .int .i64 0]) ?_ 0 _ rfl; (with_reducible repeat (first | refine blk_drewN ?_ _ | refine blk_drew ?_ | refine blk_alloc ?_ _)); exact BK593.out⟩, ⟨by repeat (first | (with_reducible first | exact HB.out | apply below_alloc | apply pw_below_drewN | apply below_drew1 | refine below_set ?_ GE581.out | refine below_set ?_ GE593.out) | exact HB.out)⟩⟩
    case rest =>
      clear HC8
      try clear c1
      try clear c2
      try clear p2
      try clear c6
      try clear c11
      try clear c14
      try clear c18
      try clear c18b0
      try clear c18b1
      try clear c19
      try clear hcz11_0
      try clear hcz11_1
      try clear hcz11_2
      try clear hcz11_3
      try clear hcz11_4
      try clear hcz15_0
      try clear hcz15_1
      try clear hcz15_2
      try clear hcz15_3
      try clear hcz15_4
      try clear hcz20_0
      try clear hcz20_1
      try clear hcz20_2
      try clear hcz20_3
      try clear hcz20_4
      try clear hfz11_0
      try clear hfz11_1
      try clear hfz11_2
      try clear hfz11_3
      try clear hfz11_4
      try clear hfz15_0
      try clear hfz15_1
      try clear hfz15_2
      try clear hfz15_3
      try clear hfz15_4
      try clear hfz20_0
      try clear hfz20_1
      try clear hfz20_2
      try clear hfz20_3
      try clear hfz20_4
      obtain ⟨kq, x33_7, rfl, HA, HJ7, HO_594001, HO_594002, BK581, BK593, HB⟩ := hcut
      cases kq with
      | zero => exact absurd HA.out (by simp [cambiumlaw03_DevSpoilt.j0])
      | succ kj7 =>
        have H := HA.out
        clear HA
        simp only [cambiumlaw03_DevSpoilt.j0] at H
        by_cases c21 : x33_7 = true
        · subst c21
          have H1 : (some true) = some r := by rw [if_pos rfl] at H; exact H
          clear H
          have H := H1
          clear H1
          obtain rfl := Option.some.inj H
          go_wp2
          go_ret
          exact ⟨by first | rfl | (simp [errW_none, errW_some] <;> rfl) | (simp [*, errW_none, errW_some] <;> rfl), by repeat (first | (with_reducible first | exact HB.out | apply below_alloc | apply pw_below_drewN | apply below_drew1 | refine below_set ?_ GE581.out | refine below_set ?_ GE593.out) | exact HB.out)⟩
        replace c21 := Bool.eq_false_iff.mpr c21
        subst c21
        have H1 : ((dev_Read.f kj7 a0_0 l0_1 l0_2 a0_3 a0_4 a3).bind fun bt594 => ((dev_Read.f kj7 t583 t584 t587 t590 t591 a3).bind fun bt596 => (if bt594.2 = bt596.2 then (if a3 = a1 then (cambiumlaw03_DevSpoilt.j1 kj7 a1 a2 false a0_0 l0_1 l0_2 a0_3 a0_4 t583 t584 t587 t590 t591) else (cambiumlaw03_DevSpoilt.j1 kj7 a1 a2 (bt594.1.toList != bt596.1.toList) a0_0 l0_1 l0_2 a0_3 a0_4 t583 t584 t587 t590 t591)) else (cambiumlaw03_DevSpoilt.j1 kj7 a1 a2 true a0_0 l0_1 l0_2 a0_3 a0_4 t583 t584 t587 t590 t591)))) = some r := by rw [if_neg (show ¬ (false = true) by decide)] at H; exact H
        clear H
        have H := H1
        clear H1
        replace H := Option.bind_eq_some_iff.mp H
        obtain ⟨⟨t594, t595⟩, A220, H⟩ := H
        replace H : ((dev_Read.f kj7 t583 t584 t587 t590 t591 a3).bind fun bt596 => (if t595 = bt596.2 then (if a3 = a1 then (cambiumlaw03_DevSpoilt.j1 kj7 a1 a2 false a0_0 l0_1 l0_2 a0_3 a0_4 t583 t584 t587 t590 t591) else (cambiumlaw03_DevSpoilt.j1 kj7 a1 a2 (t594.toList != bt596.1.toList) a0_0 l0_1 l0_2 a0_3 a0_4 t583 t584 t587 t590 t591)) else (cambiumlaw03_DevSpoilt.j1 kj7 a1 a2 true a0_0 l0_1 l0_2 a0_3 a0_4 t583 t584 t587 t590 t591))) = some r := H
        have A22 := Aside0.mk A220
        clear A220
        replace H := Option.bind_eq_some_iff.mp H
        obtain ⟨⟨t596, t597⟩, A230, H⟩ := H
        replace H : (if t595 = t597 then (if a3 = a1 then (cambiumlaw03_DevSpoilt.j1 kj7 a1 a2 false a0_0 l0_1 l0_2 a0_3 a0_4 t583 t584 t587 t590 t591) else (cambiumlaw03_DevSpoilt.j1 kj7 a1 a2 (t594.toList != t596.toList) a0_0 l0_1 l0_2 a0_3 a0_4 t583 t584 t587 t590 t591)) else (cambiumlaw03_DevSpoilt.j1 kj7 a1 a2 true a0_0 l0_1 l0_2 a0_3 a0_4 t583 t584 t587 t590 t591)) = some r := H
        have A23 := Aside0.mk A230
        clear A230
        have HC24 := Aside0.mk H
        clear H
        have hnb25 := NB581_593.out
        have hnc25 := NB593_581.out
        have hcz26_0 : wc.cell? ⟨gb581, 0, none⟩ = some (.int .u32 a0_0) := (blk_cell BK581.out 0).trans rfl
        have hcz26_1 : wc.cell? ⟨gb581, 1, none⟩ = some (.slice A0_1 l0_1.length c0_1) := (blk_cell BK581.out 1).trans rfl
        have hcz26_2 : wc.cell? ⟨gb581, 2, none⟩ = some (.slice A0_2 l0_2.length c0_2) := (blk_cell BK581.out 2).trans rfl
        have hcz26_3 : wc.cell? ⟨gb581, 3, none⟩ = some (.bool a0_3) := (blk_cell BK581.out 3).trans rfl
        have hcz26_4 : wc.cell? ⟨gb581, 4, none⟩ = some (.int .i64 a0_4) := (blk_cell BK581.out 4).trans rfl
        have hfz26_0 := blk_frozen BK581.out 0
        have hfz26_1 := blk_frozen BK581.out 1
        have hfz26_2 := blk_frozen BK581.out 2
        have hfz26_3 := blk_frozen BK581.out 3
        have hfz26_4 := blk_frozen BK581.out 4
        go_upto_region 8 with (first | ((with_reducible refine gate_callee (f := 17) rfl ?_); refine goesL_ (some 37) rfl rfl Tryd.func17 (by kernel_rfl) rfl #[.agg #[.int .u32 a0_0, .slice A0_1 l0_1.length c0_1, .slice A0_2 l0_2.length c0_2, .bool a0_3, .int .i64 a0_4], .int .u32 a3] rfl (by (try simp only [List.map_toArray, List.map_cons, List.map_nil]); first | done | rfl | (simp only [List.length_drop, List.length_take]; rfl)) ?_; (with_reducible refine (dev_Read.calls kj7 a0_0 _ _ l0_1 _ _ l0_2 a0_3 a0_4 a3 t594 t595 _ ?side1 ?side2 ?side3 ?side4 A22.out).mono ?_); (case side1 => repeat (first | exact (Kd.C_below HR0_1.out HB.out) | (with_reducible refine Kd.C_alloc ?_ _) | (with_reducible refine Kd.C_drewN ?_ _) | (with_reducible refine Kd.C_drew ?_))); (case side2 => exact HC0_1.out); (case side3 => repeat (first | exact (Kd.C_below HR0_2.out HB.out) | (with_reducible refine Kd.C_alloc ?_ _) | (with_reducible refine Kd.C_drewN ?_ _) | (with_reducible refine Kd.C_drew ?_))); (case side4 => exact HC0_2.out); rintro e w27 ⟨rfl, hb⟩; refine ⟨_, rfl, ?_⟩; have n0_ := Aside0.mk (Kd.R_below (by (with_reducible repeat (first | apply Kd.R_alloc | apply Kd.R_drewN | apply Kd.R_drew)); exact HO_594001.out) hb); have n1_ := Aside0.mk (Kd.R_below (by (with_reducible repeat (first | apply Kd.R_alloc | apply Kd.R_drewN | apply Kd.R_drew)); exact HO_594002.out) hb); have n2_ := Aside0.mk (blk_below (g := gb581) (o := .cells #[.int .u32 a0_0, .slice A0_1 l0_1.length c0_1, .slice A0_2 l0_2.length c0_2, .bool a0_3, .int .i64 a0_4] 25 (0, 0)) (by (with_reducible repeat (first | refine blk_drewN ?_ _ | refine blk_drew ?_ | refine blk_alloc ?_ _)); exact BK581.out) hb); have n3_ := Aside0.mk (blk_below (g := gb593) (o := .cells #[.int .u32 t583, .slice Ao16 t584.length co16, .slice Ao17 t587.length co17, .bool t590, .int .i64 t591] 25 (0, 0)) (by (with_reducible repeat (first | refine blk_drewN ?_ _ | refine blk_drew ?_ | refine blk_alloc ?_ _)); exact BK593.out) hb); have n4_ := Aside0.mk (below_step (by repeat (first | (with_reducible first | exact HB.out | apply below_alloc | apply pw_below_drewN | apply below_drew1 | refine below_set ?_ GE581.out | refine below_set ?_ GE593.out) | exact HB.out)) hb); clear HO_594001; clear HO_594002; clear BK581; clear BK593; clear HB; have HO_594001 := n0_; have HO_594002 := n1_; have BK581 := n2_; have BK593 := n3_; have HB := n4_; clear n0_ n1_ n2_ n3_ n4_; (try clear hb); (try clear hb2); (try clear hk); (try clear hi); have hcz28_0 : w27.cell? ⟨gb593, 0, none⟩ = some (.int .u32 t583) := (blk_cell BK593.out 0).trans rfl; have hcz28_1 : w27.cell? ⟨gb593, 1, none⟩ = some (.slice Ao16 t584.length co16) := (blk_cell BK593.out 1).trans rfl; have hcz28_2 : w27.cell? ⟨gb593, 2, none⟩ = some (.slice Ao17 t587.length co17) := (blk_cell BK593.out 2).trans rfl; have hcz28_3 : w27.cell? ⟨gb593, 3, none⟩ = some (.bool t590) := (blk_cell BK593.out 3).trans rfl; have hcz28_4 : w27.cell? ⟨gb593, 4, none⟩ = some (.int .i64 t591) := (blk_cell BK593.out 4).trans rfl; have hfz28_0 := blk_frozen BK593.out 0; have hfz28_1 := blk_frozen BK593.out 1; have hfz28_2 := blk_frozen BK593.out 2; have hfz28_3 := blk_frozen BK593.out 3; have hfz28_4 := blk_frozen BK593.out 4) | ((with_reducible refine gate_callee (f := 17) rfl ?_); refine goesL_ (some 43) rfl rfl Tryd.func17 (by kernel_rfl) rfl #[.agg #[.int .u32 t583, .slice Ao16 t584.length co16, .slice Ao17 t587.length co17, .bool t590, .int .i64 t591], .int .u32 a3] rfl (by (try simp only [List.map_toArray, List.map_cons, List.map_nil]); first | done | rfl | (simp only [List.length_drop, List.length_take]; rfl)) ?_; (with_reducible refine (dev_Read.calls kj7 t583 _ _ t584 _ _ t587 t590 t591 a3 t596 t597 _ ?side1 ?side2 ?side3 ?side4 A23.out).mono ?_); (case side1 => repeat (first | exact (Kd.R_reads' HO_594001.out).2.2 | (with_reducible refine Kd.C_alloc ?_ _) | (with_reducible refine Kd.C_drewN ?_ _) | (with_reducible refine Kd.C_drew ?_))); (case side2 => exact (Kd.R_reads' HO_594001.out).2.1); (case side3 => repeat (first | exact (Kd.R_reads' HO_594002.out).2.2 | (with_reducible refine Kd.C_alloc ?_ _) | (with_reducible refine Kd.C_drewN ?_ _) | (with_reducible refine Kd.C_drew ?_))); (case side4 => exact (Kd.R_reads' HO_594002.out).2.1); rintro e w29 ⟨rfl, hb⟩; refine ⟨_, rfl, ?_⟩; have n0_ := Aside0.mk (Kd.R_below (by (with_reducible repeat (first | apply Kd.R_alloc | apply Kd.R_drewN | apply Kd.R_drew)); exact HO_594001.out) hb); have n1_ := Aside0.mk (Kd.R_below (by (with_reducible repeat (first | apply Kd.R_alloc | apply Kd.R_drewN | apply Kd.R_drew)); exact HO_594002.out) hb); have n2_ := Aside0.mk (blk_below (g := gb581) (o := .cells #[.int .u32 a0_0, .slice A0_1 l0_1.length c0_1, .slice A0_2 l0_2.length c0_2, .bool a0_3, .int .i64 a0_4] 25 (0, 0)) (by (with_reducible repeat (first | refine blk_drewN ?_ _ | refine blk_drew ?_ | refine blk_alloc ?_ _)); exact BK581.out) hb); have n3_ := Aside0.mk (blk_below (g := gb593) (o := .cells #[.int .u32 t583, .slice Ao16 t584.length co16, .slice Ao17 t587.length co17, .bool t590, .int .i64 t591] 25 (0, 0)) (by (with_reducible repeat (first | refine blk_drewN ?_ _ | refine blk_drew ?_ | refine blk_alloc ?_ _)); exact BK593.out) hb); have n4_ := Aside0.mk (below_step (by repeat (first | (with_reducible first | exact HB.out | apply below_alloc | apply pw_below_drewN | apply below_drew1 | refine below_set ?_ GE581.out | refine below_set ?_ GE593.out) | exact HB.out)) hb); clear HO_594001; clear HO_594002; clear BK581; clear BK593; clear HB; have HO_594001 := n0_; have HO_594002 := n1_; have BK581 := n2_; have BK593 := n3_; have HB := n4_; clear n0_ n1_ n2_ n3_ n4_; (try clear hb); (try clear hb2); (try clear hk); (try clear hi)))
        (try simp only [Act.put, List.setIfInBounds_toArray, List.set_cons_zero, List.set_cons_succ])
        go_cut [58] (fun v58 wc => ∃ (kq : Nat) (x58_23 : Bool), v58 = .bool x58_23 ∧ Aside0 (cambiumlaw03_DevSpoilt.j1 kq a1 a2 x58_23 a0_0 l0_1 l0_2 a0_3 a0_4 t583 t584 t587 t590 t591 = some r) ∧ Aside0 (kq ≤ kj7) ∧ Aside0 (Kd.R k39 39 wc w.heap.size (fun k_ => some k_ ≠ ((.slice Ao17 t587.length co17) : Value).ownBlock) (.slice Ao16 t584.length co16) t584) ∧ Aside0 (Kd.R k39 39 wc w.heap.size (fun k_ => some k_ ≠ ((.slice Ao16 t584.length co16) : Value).ownBlock) (.slice Ao17 t587.length co17) t587) ∧ Aside0 (wc.heap[gb581]? = some (.cells #[.int .u32 a0_0, (.slice A0_1 l0_1.length c0_1), (.slice A0_2 l0_2.length c0_2), .bool a0_3, .int .i64 a0_4] 25 (0, 0))) ∧ Aside0 (wc.heap[gb593]? = some (.cells #[.int .u32 t583, (.slice Ao16 t584.length co16), (.slice Ao17 t587.length co17), .bool t590, .int .i64 t591] 25 (0, 0))) ∧ Aside0 (Below w.heap.size w wc))
        case first =>
          have H := HC24.out
          clear HC24
          by_cases c30 : t595 = t597
          · rw [if_pos c30] at H
            have c30b0 : (t595 == t597) = true := beq_iff_eq.mpr c30
            have c30b1 : (t595 != t597) = false := bne_eq_false_iff_eq.mpr c30
            clear c30
            (first | rw [c30b0] | (simp only [i64_w, i32_w]; rw [c30b0]) | skip)
            by_cases c31 : a3 = a1
            · rw [if_pos c31] at H
              have c31b0 : (a3 == a1) = true := beq_iff_eq.mpr c31
              have c31b1 : (a3 != a1) = false := bne_eq_false_iff_eq.mpr c31
              clear c31
              have H' := Aside0.mk H
              clear H
              go_wp2
              go_meet
              case rel => exact ⟨_, (false), (by first | rfl | (simp; done) | (simp [*]; done)), H', ⟨by have := HJ7.out; first | omega | exact Nat.le_refl _⟩, ⟨by (with_reducible repeat (first | apply Kd.R_alloc | apply Kd.R_drewN | apply Kd.R_drew)); exact HO_594001.out⟩, ⟨by (with_reducible repeat (first | apply Kd.R_alloc | apply Kd.R_drewN | apply Kd.R_drew)); exact HO_594002.out⟩, ⟨by (with_reducible repeat (first | refine blk_drewN ?_ _ | refine blk_drew ?_ | refine blk_alloc ?_ _)); exact BK581.out⟩, ⟨by (with_reducible repeat (first | refine blk_drewN ?_ _ | refine blk_drew ?_ | refine blk_alloc ?_ _)); exact BK593.out⟩, ⟨by repeat (first | (with_reducible first | exact HB.out | apply below_alloc | apply pw_below_drewN | apply below_drew1 | refine below_set ?_ GE581.out | refine below_set ?_ GE593.out) | exact HB.out)⟩⟩
            rw [if_neg c31] at H
            have c31b0 : (a3 == a1) = false := beq_eq_false_iff_ne.mpr c31
            have c31b1 : (a3 != a1) = true := bne_iff_ne.mpr c31
            have H' := Aside0.mk H
            clear H
            go_wp2
            go_meet
            case rel => exact ⟨_, ((t594.toList != t596.toList)), (by first | rfl | (simp; done) | (simp [*]; done)), H', ⟨by have := HJ7.out; first | omega | exact Nat.le_refl _⟩, ⟨by (with_reducible repeat (first | apply Kd.R_alloc | apply Kd.R_drewN | apply Kd.R_drew)); exact HO_594001.out⟩, ⟨by (with_reducible repeat (first | apply Kd.R_alloc | apply Kd.R_drewN | apply Kd.R_drew)); exact HO_594002.out⟩, ⟨by (with_reducible repeat (first | refine blk_drewN ?_ _ | refine blk_drew ?_ | refine blk_alloc ?_ _)); exact BK581.out⟩, ⟨by (with_reducible repeat (first | refine blk_drewN ?_ _ | refine blk_drew ?_ | refine blk_alloc ?_ _)); exact BK593.out⟩, ⟨by repeat (first | (with_reducible first | exact HB.out | apply below_alloc | apply pw_below_drewN | apply below_drew1 | refine below_set ?_ GE581.out | refine below_set ?_ GE593.out) | exact HB.out)⟩⟩
          rw [if_neg c30] at H
          have c30b0 : (t595 == t597) = false := beq_eq_false_iff_ne.mpr c30
          have c30b1 : (t595 != t597) = true := bne_iff_ne.mpr c30
          (first | rw [c30b0] | (simp only [i64_w, i32_w]; rw [c30b0]) | skip)
          have H' := Aside0.mk H
          clear H
          go_wp2
          go_meet
          case rel => exact ⟨_, (true), (by first | rfl | (simp; done) | (simp [*]; done)), H', ⟨by have := HJ7.out; first | omega | exact Nat.le_refl _⟩, ⟨by (with_reducible repeat (first | apply Kd.R_alloc | apply Kd.R_drewN | apply Kd.R_drew)); exact HO_594001.out⟩, ⟨by (with_reducible repeat (first | apply Kd.R_alloc | apply Kd.R_drewN | apply Kd.R_drew)); exact HO_594002.out⟩, ⟨by (with_reducible repeat (first | refine blk_drewN ?_ _ | refine blk_drew ?_ | refine blk_alloc ?_ _)); exact BK581.out⟩, ⟨by (with_reducible repeat (first | refine blk_drewN ?_ _ | refine blk_drew ?_ | refine blk_alloc ?_ _)); exact BK593.out⟩, ⟨by repeat (first | (with_reducible first | exact HB.out | apply below_alloc | apply pw_below_drewN | apply below_drew1 | refine below_set ?_ GE581.out | refine below_set ?_ GE593.out) | exact HB.out)⟩⟩
        case rest =>
          clear HC24
          try clear c1
          try clear c2
          try clear p2
          try clear c3
          try clear c6
          try clear c11
          try clear c14
          try clear c17
          try clear c18
          try clear c18b0
          try clear c18b1
          try clear c19
          try clear c21
          try clear c25
          try clear c26
          try clear c30
          try clear c30b0
          try clear c30b1
          try clear c31
          try clear c31b0
          try clear c31b1
          try clear hcz11_0
          try clear hcz11_1
          try clear hcz11_2
          try clear hcz11_3
          try clear hcz11_4
          try clear hcz15_0
          try clear hcz15_1
          try clear hcz15_2
          try clear hcz15_3
          try clear hcz15_4
          try clear hcz20_0
          try clear hcz20_1
          try clear hcz20_2
          try clear hcz20_3
          try clear hcz20_4
          try clear hcz26_0
          try clear hcz26_1
          try clear hcz26_2
          try clear hcz26_3
          try clear hcz26_4
          try clear hcz28_0
          try clear hcz28_1
          try clear hcz28_2
          try clear hcz28_3
          try clear hcz28_4
          try clear hfz11_0
          try clear hfz11_1
          try clear hfz11_2
          try clear hfz11_3
          try clear hfz11_4
          try clear hfz15_0
          try clear hfz15_1
          try clear hfz15_2
          try clear hfz15_3
          try clear hfz15_4
          try clear hfz20_0
          try clear hfz20_1
          try clear hfz20_2
          try clear hfz20_3
          try clear hfz20_4
          try clear hfz26_0
          try clear hfz26_1
          try clear hfz26_2
          try clear hfz26_3
          try clear hfz26_4
          try clear hfz28_0
          try clear hfz28_1
          try clear hfz28_2
          try clear hfz28_3
          try clear hfz28_4
          try clear p2
          obtain ⟨kq, x58_23, rfl, HA, HJ23, HO_594001, HO_594002, BK581, BK593, HB⟩ := hcut
          cases kq with
          | zero => exact absurd HA.out (by simp [cambiumlaw03_DevSpoilt.j1])
          | succ kj23 =>
            have H := HA.out
            clear HA
            simp only [cambiumlaw03_DevSpoilt.j1] at H
            by_cases c32 : x58_23 = true
            · subst c32
              have H1 : (some false) = some r := by rw [if_pos rfl] at H; exact H
              clear H
              have H := H1
              clear H1
              exact absurd ((Option.some.inj H).trans HT_.out) (by simp)
            replace c32 := Bool.eq_false_iff.mpr c32
            subst c32
            have H1 : (cambiumlaw03_DevSpoilt.l0 kj23 a1 a2 l0_2 (l0_2.length : Int) 0 t583 t584 t587 t590 t591) = some r := by rw [if_neg (show ¬ (false = true) by decide)] at H; exact H
            clear H
            have H := H1
            clear H1
            have H' := Aside0.mk H
            clear H
            have hnb33 := NB581_593.out
            have hnc33 := NB593_581.out
            have hcz34_0 : wc.cell? ⟨gb581, 0, none⟩ = some (.int .u32 a0_0) := (blk_cell BK581.out 0).trans rfl
            have hcz34_1 : wc.cell? ⟨gb581, 1, none⟩ = some (.slice A0_1 l0_1.length c0_1) := (blk_cell BK581.out 1).trans rfl
            have hcz34_2 : wc.cell? ⟨gb581, 2, none⟩ = some (.slice A0_2 l0_2.length c0_2) := (blk_cell BK581.out 2).trans rfl
            have hcz34_3 : wc.cell? ⟨gb581, 3, none⟩ = some (.bool a0_3) := (blk_cell BK581.out 3).trans rfl
            have hcz34_4 : wc.cell? ⟨gb581, 4, none⟩ = some (.int .i64 a0_4) := (blk_cell BK581.out 4).trans rfl
            have hfz34_0 := blk_frozen BK581.out 0
            have hfz34_1 := blk_frozen BK581.out 1
            have hfz34_2 := blk_frozen BK581.out 2
            have hfz34_3 := blk_frozen BK581.out 3
            have hfz34_4 := blk_frozen BK581.out 4
            go_wp2
            go_loopg [62] kj23 (fun kq v62 w' => ∃ (x62_3 : Int), v62 = .int .i64 x62_3 ∧ Aside0 (cambiumlaw03_DevSpoilt.l0 kq a1 a2 l0_2 (l0_2.length : Int) x62_3 t583 t584 t587 t590 t591 = some r) ∧ Aside0 (kq ≤ kj23) ∧ Aside0 (Kd.R k39 39 w' w.heap.size (fun k_ => some k_ ≠ ((.slice Ao17 t587.length co17) : Value).ownBlock) (.slice Ao16 t584.length co16) t584) ∧ Aside0 (Kd.R k39 39 w' w.heap.size (fun k_ => some k_ ≠ ((.slice Ao16 t584.length co16) : Value).ownBlock) (.slice Ao17 t587.length co17) t587) ∧ Aside0 (w'.heap[gb581]? = some (.cells #[.int .u32 a0_0, (.slice A0_1 l0_1.length c0_1), (.slice A0_2 l0_2.length c0_2), .bool a0_3, .int .i64 a0_4] 25 (0, 0))) ∧ Aside0 (w'.heap[gb593]? = some (.cells #[.int .u32 t583, (.slice Ao16 t584.length co16), (.slice Ao17 t587.length co17), .bool t590, .int .i64 t591] 25 (0, 0))) ∧ Aside0 (Below w.heap.size w w'))
            case atStart => exact ⟨(0), (by first | rfl | (simp; done) | (simp [*]; done)), H', ⟨Nat.le_refl _⟩, ⟨by (with_reducible repeat (first | apply Kd.R_alloc | apply Kd.R_drewN | apply Kd.R_drew)); exact HO_594001.out⟩, ⟨by (with_reducible repeat (first | apply Kd.R_alloc | apply Kd.R_drewN | apply Kd.R_drew)); exact HO_594002.out⟩, ⟨by (with_reducible repeat (first | refine blk_drewN ?_ _ | refine blk_drew ?_ | refine blk_alloc ?_ _)); exact BK581.out⟩, ⟨by (with_reducible repeat (first | refine blk_drewN ?_ _ | refine blk_drew ?_ | refine blk_alloc ?_ _)); exact BK593.out⟩, ⟨by repeat (first | (with_reducible first | exact HB.out | apply below_alloc | apply pw_below_drewN | apply below_drew1 | refine below_set ?_ GE581.out | refine below_set ?_ GE593.out) | exact HB.out)⟩⟩
            case round =>
              clear H'
              try clear c1
              try clear c2
              try clear p2
              try clear c3
              try clear c6
              try clear c11
              try clear c14
              try clear c17
              try clear c18
              try clear c18b0
              try clear c18b1
              try clear c19
              try clear c21
              try clear c25
              try clear c26
              try clear c30
              try clear c30b0
              try clear c30b1
              try clear c31
              try clear c31b0
              try clear c31b1
              try clear c32
              try clear c33
              try clear hcz11_0
              try clear hcz11_1
              try clear hcz11_2
              try clear hcz11_3
              try clear hcz11_4
              try clear hcz15_0
              try clear hcz15_1
              try clear hcz15_2
              try clear hcz15_3
              try clear hcz15_4
              try clear hcz20_0
              try clear hcz20_1
              try clear hcz20_2
              try clear hcz20_3
              try clear hcz20_4
              try clear hcz26_0
              try clear hcz26_1
              try clear hcz26_2
              try clear hcz26_3
              try clear hcz26_4
              try clear hcz28_0
              try clear hcz28_1
              try clear hcz28_2
              try clear hcz28_3
              try clear hcz28_4
              try clear hcz34_0
              try clear hcz34_1
              try clear hcz34_2
              try clear hcz34_3
              try clear hcz34_4
              try clear hfz11_0
              try clear hfz11_1
              try clear hfz11_2
              try clear hfz11_3
              try clear hfz11_4
              try clear hfz15_0
              try clear hfz15_1
              try clear hfz15_2
              try clear hfz15_3
              try clear hfz15_4
              try clear hfz20_0
              try clear hfz20_1
              try clear hfz20_2
              try clear hfz20_3
              try clear hfz20_4
              try clear hfz26_0
              try clear hfz26_1
              try clear hfz26_2
              try clear hfz26_3
              try clear hfz26_4
              try clear hfz28_0
              try clear hfz28_1
              try clear hfz28_2
              try clear hfz28_3
              try clear hfz28_4
              try clear hfz34_0
              try clear hfz34_1
              try clear hfz34_2
              try clear hfz34_3
              try clear hfz34_4
              try clear p2
              obtain ⟨x62_3, rfl, HA, HK3, HO_594001, HO_594002, BK581, BK593, HB⟩ := hrel
              cases gk with
              | zero => exact absurd HA.out (by simp [cambiumlaw03_DevSpoilt.l0])
              | succ k3 =>
                have H := HA.out
                clear HA
                simp only [cambiumlaw03_DevSpoilt.l0] at H
                by_cases c35 : x62_3 < (l0_2.length : Int)
                · rw [if_pos c35] at H
                  have c35b0 : decide (x62_3 < (l0_2.length : Int)) = true := decide_eq_true c35
                  clear c35
                  by_cases c36 : 0 ≤ x62_3
                  · rw [if_pos c36] at H
                    have c36b0 : decide (0 ≤ x62_3) = true := decide_eq_true c36
                    clear c36
                    by_cases c37 : x62_3 < (l0_2.length : Int)
                    · rw [if_pos c37] at H
                      have c37b0 : decide (x62_3 < (l0_2.length : Int)) = true := decide_eq_true c37
                      clear c37
                      by_cases c38 : ((rd_T39 l0_2 x62_3).f0) = a1
                      · rw [if_pos c38] at H
                        have c38b0 : (((rd_T39 l0_2 x62_3).f0) == a1) = true := beq_iff_eq.mpr c38
                        have c38b1 : (((rd_T39 l0_2 x62_3).f0) != a1) = false := bne_eq_false_iff_eq.mpr c38
                        clear c38
                        obtain rfl := Option.some.inj H
                        have p598 : 0 ≤ (x62_3 : Int) := of_decide_eq_true (by first | (with_reducible assumption) | assumption)
                        have q598 : x62_3 < (l0_2.length : Int) := of_decide_eq_true (by first | (with_reducible assumption) | assumption)
                        obtain ⟨ad598, e598, hx598_0, hx598_1⟩ := at_T39 HR0_2.out x62_3 p598 q598
                        cases e598
                        replace hx598_0 := (HB.out.cell (World.block_lt_of_cell? w _ hx598_0)).trans hx598_0
                        replace hx598_1 := (HB.out.cell (World.block_lt_of_cell? w _ hx598_1)).trans hx598_1
                        replace p598 := eq_true p598
                        replace q598 := eq_true q598
                        go_wp2_with (first | ((with_reducible refine gate_dst (N := 16) rfl ?_); refine box_event ?hg (N := 16) ?hd (cs := #[.int .u32 0, .string (⟨#[]⟩ : ByteArray)]) (t := 39) ?hr ?_; (case hd => rfl); (case hg => rfl); (case hr => first | (go_simp; done) | (go_simp; rfl)); intro gb599 hg w39 hbox hb; have n0_ := Aside0.mk (Kd.R_below (Kd.R_elderB (by (with_reducible repeat (first | apply Kd.R_alloc | apply Kd.R_drewN | apply Kd.R_drew)); exact HO_594001.out) gb599 (Nat.le_of_eq hg.symm)) hb); have n1_ := Aside0.mk (Kd.R_below (Kd.R_elderB (by (with_reducible repeat (first | apply Kd.R_alloc | apply Kd.R_drewN | apply Kd.R_drew)); exact HO_594002.out) gb599 (Nat.le_of_eq hg.symm)) hb); have n2_ := Aside0.mk (blk_below (g := gb581) (o := .cells #[.int .u32 a0_0, .slice A0_1 l0_1.length c0_1, .slice (some ad598) l0_2.length c0_2, .bool a0_3, .int .i64 a0_4] 25 (0, 0)) (by (with_reducible repeat (first | refine blk_drewN ?_ _ | refine blk_drew ?_ | refine blk_alloc ?_ _)); exact BK581.out) hb); have n3_ := Aside0.mk (blk_below (g := gb593) (o := .cells #[.int .u32 t583, .slice Ao16 t584.length co16, .slice Ao17 t587.length co17, .bool t590, .int .i64 t591] 25 (0, 0)) (by (with_reducible repeat (first | refine blk_drewN ?_ _ | refine blk_drew ?_ | refine blk_alloc ?_ _)); exact BK593.out) hb); have n4_ := Aside0.mk (below_step (by repeat (first | (with_reducible first | exact HB.out | apply below_alloc | apply pw_below_drewN | apply below_drew1 | refine below_set ?_ GE581.out | refine below_set ?_ GE593.out) | exact HB.out)) hb); have n5_ := Aside0.mk (hbox); have n6_ := Aside0.mk ((by rw [hg]; exact (below_size (by repeat (first | (with_reducible first | exact HB.out | apply below_alloc | apply pw_below_drewN | apply below_drew1 | refine below_set ?_ GE581.out | refine below_set ?_ GE593.out) | exact HB.out))) : w.heap.size ≤ gb599)); have n7_ := Aside0.mk ((by rw [hg]; exact (below_size (by repeat (first | (with_reducible first | exact HB.out | apply below_alloc | apply pw_below_drewN | apply below_drew1 | refine below_set ?_ GE581.out | refine below_set ?_ GE593.out) | exact HB.out))) : w.heap.size ≤ gb599)); have n8_ := Aside0.mk ((by rw [hg]; exact Nat.ne_of_lt (blk_lt (g := gb581) (o := .cells #[.int .u32 a0_0, .slice A0_1 l0_1.length c0_1, .slice (some ad598) l0_2.length c0_2, .bool a0_3, .int .i64 a0_4] 25 (0, 0)) (by (with_reducible repeat (first | refine blk_drewN ?_ _ | refine blk_drew ?_ | refine blk_alloc ?_ _)); exact BK581.out)) : gb581 ≠ gb599)); have n9_ := Aside0.mk ((by rw [hg]; exact Nat.ne_of_gt (blk_lt (g := gb581) (o := .cells #[.int .u32 a0_0, .slice A0_1 l0_1.length c0_1, .slice (some ad598) l0_2.length c0_2, .bool a0_3, .int .i64 a0_4] 25 (0, 0)) (by (with_reducible repeat (first | refine blk_drewN ?_ _ | refine blk_drew ?_ | refine blk_alloc ?_ _)); exact BK581.out)) : gb599 ≠ gb581)); have n10_ := Aside0.mk ((by rw [hg]; exact Nat.ne_of_lt (blk_lt (g := gb593) (o := .cells #[.int .u32 t583, .slice Ao16 t584.length co16, .slice Ao17 t587.length co17, .bool t590, .int .i64 t591] 25 (0, 0)) (by (with_reducible repeat (first | refine blk_drewN ?_ _ | refine blk_drew ?_ | refine blk_alloc ?_ _)); exact BK593.out)) : gb593 ≠ gb599)); have n11_ := Aside0.mk ((by rw [hg]; exact Nat.ne_of_gt (blk_lt (g := gb593) (o := .cells #[.int .u32 t583, .slice Ao16 t584.length co16, .slice Ao17 t587.length co17, .bool t590, .int .i64 t591] 25 (0, 0)) (by (with_reducible repeat (first | refine blk_drewN ?_ _ | refine blk_drew ?_ | refine blk_alloc ?_ _)); exact BK593.out)) : gb599 ≠ gb593)); clear HO_594001; clear HO_594002; clear BK581; clear BK593; clear HB; have HO_594001 := n0_; have HO_594002 := n1_; have BK581 := n2_; have BK593 := n3_; have HB := n4_; have BK599 := n5_; have GW599 := n6_; have GE599 := n7_; have NB581_599 := n8_; have NB599_581 := n9_; have NB593_599 := n10_; have NB599_593 := n11_; clear n0_ n1_ n2_ n3_ n4_ n5_ n6_ n7_ n8_ n9_ n10_ n11_; clear hb hbox hg; have hnb40 := NB599_581.out; have hnc40 := NB581_599.out; have hnb41 := NB599_593.out; have hnc41 := NB593_599.out; have hcz42_0 : w39.cell? ⟨gb599, 0, none⟩ = some (.int .u32 0) := (blk_cell BK599.out 0).trans rfl; have hcz42_1 : w39.cell? ⟨gb599, 1, none⟩ = some (.string (⟨#[]⟩ : ByteArray)) := (blk_cell BK599.out 1).trans rfl; have hfz42_0 := blk_frozen BK599.out 0; have hfz42_1 := blk_frozen BK599.out 1))
                        go_ret
                        exact ⟨by first | rfl | (simp [errW_none, errW_some] <;> rfl) | (simp [*, errW_none, errW_some] <;> rfl), by repeat (first | (with_reducible first | exact HB.out | apply below_alloc | apply pw_below_drewN | apply below_drew1 | refine below_set ?_ GE581.out | refine below_set ?_ GE593.out | refine below_set ?_ GE599.out) | exact HB.out)⟩
                      rw [if_neg c38] at H
                      have c38b0 : (((rd_T39 l0_2 x62_3).f0) == a1) = false := beq_eq_false_iff_ne.mpr c38
                      have c38b1 : (((rd_T39 l0_2 x62_3).f0) != a1) = true := bne_iff_ne.mpr c38
                      have H' := Aside0.mk H
                      clear H
                      have p598 : 0 ≤ (x62_3 : Int) := of_decide_eq_true (by first | (with_reducible assumption) | assumption)
                      have q598 : x62_3 < (l0_2.length : Int) := of_decide_eq_true (by first | (with_reducible assumption) | assumption)
                      obtain ⟨ad598, e598, hx598_0, hx598_1⟩ := at_T39 HR0_2.out x62_3 p598 q598
                      cases e598
                      replace hx598_0 := (HB.out.cell (World.block_lt_of_cell? w _ hx598_0)).trans hx598_0
                      replace hx598_1 := (HB.out.cell (World.block_lt_of_cell? w _ hx598_1)).trans hx598_1
                      replace p598 := eq_true p598
                      replace q598 := eq_true q598
                      go_wp2_with (first | ((with_reducible refine gate_dst (N := 16) rfl ?_); refine box_event ?hg (N := 16) ?hd (cs := #[.int .u32 0, .string (⟨#[]⟩ : ByteArray)]) (t := 39) ?hr ?_; (case hd => rfl); (case hg => rfl); (case hr => first | (go_simp; done) | (go_simp; rfl)); intro gb599 hg w43 hbox hb; have n0_ := Aside0.mk (Kd.R_below (Kd.R_elderB (by (with_reducible repeat (first | apply Kd.R_alloc | apply Kd.R_drewN | apply Kd.R_drew)); exact HO_594001.out) gb599 (Nat.le_of_eq hg.symm)) hb); have n1_ := Aside0.mk (Kd.R_below (Kd.R_elderB (by (with_reducible repeat (first | apply Kd.R_alloc | apply Kd.R_drewN | apply Kd.R_drew)); exact HO_594002.out) gb599 (Nat.le_of_eq hg.symm)) hb); have n2_ := Aside0.mk (blk_below (g := gb581) (o := .cells #[.int .u32 a0_0, .slice A0_1 l0_1.length c0_1, .slice (some ad598) l0_2.length c0_2, .bool a0_3, .int .i64 a0_4] 25 (0, 0)) (by (with_reducible repeat (first | refine blk_drewN ?_ _ | refine blk_drew ?_ | refine blk_alloc ?_ _)); exact BK581.out) hb); have n3_ := Aside0.mk (blk_below (g := gb593) (o := .cells #[.int .u32 t583, .slice Ao16 t584.length co16, .slice Ao17 t587.length co17, .bool t590, .int .i64 t591] 25 (0, 0)) (by (with_reducible repeat (first | refine blk_drewN ?_ _ | refine blk_drew ?_ | refine blk_alloc ?_ _)); exact BK593.out) hb); have n4_ := Aside0.mk (below_step (by repeat (first | (with_reducible first | exact HB.out | apply below_alloc | apply pw_below_drewN | apply below_drew1 | refine below_set ?_ GE581.out | refine below_set ?_ GE593.out) | exact HB.out)) hb); have n5_ := Aside0.mk (hbox); have n6_ := Aside0.mk ((by rw [hg]; exact (below_size (by repeat (first | (with_reducible first | exact HB.out | apply below_alloc | apply pw_below_drewN | apply below_drew1 | refine below_set ?_ GE581.out | refine below_set ?_ GE593.out) | exact HB.out))) : w.heap.size ≤ gb599)); have n7_ := Aside0.mk ((by rw [hg]; exact (below_size (by repeat (first | (with_reducible first | exact HB.out | apply below_alloc | apply pw_below_drewN | apply below_drew1 | refine below_set ?_ GE581.out | refine below_set ?_ GE593.out) | exact HB.out))) : w.heap.size ≤ gb599)); have n8_ := Aside0.mk ((by rw [hg]; exact Nat.ne_of_lt (blk_lt (g := gb581) (o := .cells #[.int .u32 a0_0, .slice A0_1 l0_1.length c0_1, .slice (some ad598) l0_2.length c0_2, .bool a0_3, .int .i64 a0_4] 25 (0, 0)) (by (with_reducible repeat (first | refine blk_drewN ?_ _ | refine blk_drew ?_ | refine blk_alloc ?_ _)); exact BK581.out)) : gb581 ≠ gb599)); have n9_ := Aside0.mk ((by rw [hg]; exact Nat.ne_of_gt (blk_lt (g := gb581) (o := .cells #[.int .u32 a0_0, .slice A0_1 l0_1.length c0_1, .slice (some ad598) l0_2.length c0_2, .bool a0_3, .int .i64 a0_4] 25 (0, 0)) (by (with_reducible repeat (first | refine blk_drewN ?_ _ | refine blk_drew ?_ | refine blk_alloc ?_ _)); exact BK581.out)) : gb599 ≠ gb581)); have n10_ := Aside0.mk ((by rw [hg]; exact Nat.ne_of_lt (blk_lt (g := gb593) (o := .cells #[.int .u32 t583, .slice Ao16 t584.length co16, .slice Ao17 t587.length co17, .bool t590, .int .i64 t591] 25 (0, 0)) (by (with_reducible repeat (first | refine blk_drewN ?_ _ | refine blk_drew ?_ | refine blk_alloc ?_ _)); exact BK593.out)) : gb593 ≠ gb599)); have n11_ := Aside0.mk ((by rw [hg]; exact Nat.ne_of_gt (blk_lt (g := gb593) (o := .cells #[.int .u32 t583, .slice Ao16 t584.length co16, .slice Ao17 t587.length co17, .bool t590, .int .i64 t591] 25 (0, 0)) (by (with_reducible repeat (first | refine blk_drewN ?_ _ | refine blk_drew ?_ | refine blk_alloc ?_ _)); exact BK593.out)) : gb599 ≠ gb593)); clear HO_594001; clear HO_594002; clear BK581; clear BK593; clear HB; have HO_594001 := n0_; have HO_594002 := n1_; have BK581 := n2_; have BK593 := n3_; have HB := n4_; have BK599 := n5_; have GW599 := n6_; have GE599 := n7_; have NB581_599 := n8_; have NB599_581 := n9_; have NB593_599 := n10_; have NB599_593 := n11_; clear n0_ n1_ n2_ n3_ n4_ n5_ n6_ n7_ n8_ n9_ n10_ n11_; clear hb hbox hg; have hnb44 := NB599_581.out; have hnc44 := NB581_599.out; have hnb45 := NB599_593.out; have hnc45 := NB593_599.out; have hcz46_0 : w43.cell? ⟨gb599, 0, none⟩ = some (.int .u32 0) := (blk_cell BK599.out 0).trans rfl; have hcz46_1 : w43.cell? ⟨gb599, 1, none⟩ = some (.string (⟨#[]⟩ : ByteArray)) := (blk_cell BK599.out 1).trans rfl; have hfz46_0 := blk_frozen BK599.out 0; have hfz46_1 := blk_frozen BK599.out 1))
                      go_roundg k3
                      case measure => have := HJ7.out; have := HJ23.out; have := HK3.out; omega
                      case rel => exact ⟨(wrap64 (x62_3 + 1)), (by first | rfl | (simp; done) | (simp [*]; done)), H', ⟨by have := HJ7.out; have := HJ23.out; have := HK3.out; omega⟩, ⟨by (with_reducible repeat (first | apply Kd.R_alloc | apply Kd.R_drewN | apply Kd.R_drew)); exact Kd.R_mono (Kd.R_far (p := ⟨gb599, 1, none⟩) (Kd.R_far (p := ⟨gb599, 0, none⟩) (Kd.R_mono HO_594001.out (fun k_ hk => (⟨hk, hk.2⟩ : _ ∧ k_ ≠ gb599))) (fun _ hk => hk.2) (.int .u32 ((rd_T39 l0_2 x62_3).f0))) (fun _ hk => hk.2) (.string ((rd_T39 l0_2 x62_3).f1))) (fun _ hk => hk.1.1)⟩, ⟨by (with_reducible repeat (first | apply Kd.R_alloc | apply Kd.R_drewN | apply Kd.R_drew)); exact Kd.R_mono (Kd.R_far (p := ⟨gb599, 1, none⟩) (Kd.R_far (p := ⟨gb599, 0, none⟩) (Kd.R_mono HO_594002.out (fun k_ hk => (⟨hk, hk.2⟩ : _ ∧ k_ ≠ gb599))) (fun _ hk => hk.2) (.int .u32 ((rd_T39 l0_2 x62_3).f0))) (fun _ hk => hk.2) (.string ((rd_T39 l0_2 x62_3).f1))) (fun _ hk => hk.1.1)⟩, ⟨by (with_reducible repeat (first | refine blk_drewN ?_ _ | refine blk_drew ?_ | refine blk_alloc ?_ _)); refine blk_far ?_ NB581_599.out _; (with_reducible repeat (first | refine blk_drewN ?_ _ | refine blk_drew ?_ | refine blk_alloc ?_ _)); refine blk_far ?_ NB581_599.out _; (with_reducible repeat (first | refine blk_drewN ?_ _ | refine blk_drew ?_ | refine blk_alloc ?_ _)); exact BK581.out⟩, ⟨by (with_reducible repeat (first | refine blk_drewN ?_ _ | refine blk_drew ?_ | refine blk_alloc ?_ _)); refine blk_far ?_ NB593_599.out _; (with_reducible repeat (first | refine blk_drewN ?_ _ | refine blk_drew ?_ | refine blk_alloc ?_ _)); refine blk_far ?_ NB593_599.out _; (with_reducible repeat (first | refine blk_drewN ?_ _ | refine blk_drew ?_ | refine blk_alloc ?_ _)); exact BK593.out⟩, ⟨by repeat (first | (with_reducible first | exact HB.out | apply below_alloc | apply pw_below_drewN | apply below_drew1 | refine below_set ?_ GE581.out | refine below_set ?_ GE593.out | refine below_set ?_ GE599.out) | exact HB.out)⟩⟩
                    rw [if_neg c37] at H
                    exact absurd H (by simp)
                  rw [if_neg c36] at H
                  exact absurd H (by simp)
                rw [if_neg c35] at H
                have c35b0 : decide (x62_3 < (l0_2.length : Int)) = false := decide_eq_false c35
                clear c35
                replace H := Option.bind_eq_some_iff.mp H
                obtain ⟨⟨t600, t601⟩, A470, H⟩ := H
                replace H : (if t601 = 0 then ((cambiumref03_Cut.f k3 a2).bind fun t602 => (some (t600.toList == t602.toList))) else (some false)) = some r := H
                have A47 := Aside0.mk A470
                clear A470
                by_cases c48 : t601 = 0
                · rw [if_pos c48] at H
                  have c48b0 : (t601 == 0) = true := beq_iff_eq.mpr c48
                  have c48b1 : (t601 != 0) = false := bne_eq_false_iff_eq.mpr c48
                  clear c48
                  replace H := Option.bind_eq_some_iff.mp H
                  obtain ⟨t602, A490, H⟩ := H
                  replace H : (some (t600.toList == t602.toList)) = some r := H
                  have A49 := Aside0.mk A490
                  clear A490
                  obtain rfl := Option.some.inj H
                  have hnb50 := NB593_581.out
                  have hnc50 := NB581_593.out
                  have hcz51_0 : wr.cell? ⟨gb593, 0, none⟩ = some (.int .u32 t583) := (blk_cell BK593.out 0).trans rfl
                  have hcz51_1 : wr.cell? ⟨gb593, 1, none⟩ = some (.slice Ao16 t584.length co16) := (blk_cell BK593.out 1).trans rfl
                  have hcz51_2 : wr.cell? ⟨gb593, 2, none⟩ = some (.slice Ao17 t587.length co17) := (blk_cell BK593.out 2).trans rfl
                  have hcz51_3 : wr.cell? ⟨gb593, 3, none⟩ = some (.bool t590) := (blk_cell BK593.out 3).trans rfl
                  have hcz51_4 : wr.cell? ⟨gb593, 4, none⟩ = some (.int .i64 t591) := (blk_cell BK593.out 4).trans rfl
                  have hfz51_0 := blk_frozen BK593.out 0
                  have hfz51_1 := blk_frozen BK593.out 1
                  have hfz51_2 := blk_frozen BK593.out 2
                  have hfz51_3 := blk_frozen BK593.out 3
                  have hfz51_4 := blk_frozen BK593.out 4
                  go_wp2_with (first | ((with_reducible refine gate_callee (f := 17) rfl ?_); refine goesL_ (some 74) rfl rfl Tryd.func17 (by kernel_rfl) rfl #[.agg #[.int .u32 t583, .slice Ao16 t584.length co16, .slice Ao17 t587.length co17, .bool t590, .int .i64 t591], .int .u32 a1] rfl (by (try simp only [List.map_toArray, List.map_cons, List.map_nil]); first | done | rfl | (simp only [List.length_drop, List.length_take]; rfl)) ?_; (with_reducible refine (dev_Read.calls k3 t583 _ _ t584 _ _ t587 t590 t591 a1 t600 t601 _ ?side1 ?side2 ?side3 ?side4 A47.out).mono ?_); (case side1 => repeat (first | exact (Kd.R_reads' HO_594001.out).2.2 | (with_reducible refine Kd.C_alloc ?_ _) | (with_reducible refine Kd.C_drewN ?_ _) | (with_reducible refine Kd.C_drew ?_))); (case side2 => exact (Kd.R_reads' HO_594001.out).2.1); (case side3 => repeat (first | exact (Kd.R_reads' HO_594002.out).2.2 | (with_reducible refine Kd.C_alloc ?_ _) | (with_reducible refine Kd.C_drewN ?_ _) | (with_reducible refine Kd.C_drew ?_))); (case side4 => exact (Kd.R_reads' HO_594002.out).2.1); rintro e w52 ⟨rfl, hb⟩; refine ⟨_, rfl, ?_⟩; have n0_ := Aside0.mk (Kd.R_below (by (with_reducible repeat (first | apply Kd.R_alloc | apply Kd.R_drewN | apply Kd.R_drew)); exact HO_594001.out) hb); have n1_ := Aside0.mk (Kd.R_below (by (with_reducible repeat (first | apply Kd.R_alloc | apply Kd.R_drewN | apply Kd.R_drew)); exact HO_594002.out) hb); have n2_ := Aside0.mk (blk_below (g := gb581) (o := .cells #[.int .u32 a0_0, .slice A0_1 l0_1.length c0_1, .slice A0_2 l0_2.length c0_2, .bool a0_3, .int .i64 a0_4] 25 (0, 0)) (by (with_reducible repeat (first | refine blk_drewN ?_ _ | refine blk_drew ?_ | refine blk_alloc ?_ _)); exact BK581.out) hb); have n3_ := Aside0.mk (blk_below (g := gb593) (o := .cells #[.int .u32 t583, .slice Ao16 t584.length co16, .slice Ao17 t587.length co17, .bool t590, .int .i64 t591] 25 (0, 0)) (by (with_reducible repeat (first | refine blk_drewN ?_ _ | refine blk_drew ?_ | refine blk_alloc ?_ _)); exact BK593.out) hb); have n4_ := Aside0.mk (below_step (by repeat (first | (with_reducible first | exact HB.out | apply below_alloc | apply pw_below_drewN | apply below_drew1 | refine below_set ?_ GE581.out | refine below_set ?_ GE593.out) | exact HB.out)) hb); clear HO_594001; clear HO_594002; clear BK581; clear BK593; clear HB; have HO_594001 := n0_; have HO_594002 := n1_; have BK581 := n2_; have BK593 := n3_; have HB := n4_; clear n0_ n1_ n2_ n3_ n4_; (try clear hb); (try clear hb2); (try clear hk); (try clear hi)) | (go_at_call 24; (with_reducible refine (cambiumref03_Cut.calls k3 a2 t602 _ A49.out).mono ?_); rintro e w' ⟨rfl, ⟨nd, rfl⟩⟩))
                  go_ret
                  exact ⟨by first | rfl | (simp [errW_none, errW_some] <;> rfl) | (simp [*, errW_none, errW_some] <;> rfl), by repeat (first | (with_reducible first | exact HB.out | apply below_alloc | apply pw_below_drewN | apply below_drew1 | refine below_set ?_ GE581.out | refine below_set ?_ GE593.out) | exact HB.out)⟩
                rw [if_neg c48] at H
                have c48b0 : (t601 == 0) = false := beq_eq_false_iff_ne.mpr c48
                have c48b1 : (t601 != 0) = true := bne_iff_ne.mpr c48
                exact absurd ((Option.some.inj H).trans HT_.out) (by simp)
  replace c6 := Bool.eq_false_iff.mpr c6
  subst c6
  have H1 : (some false) = some r := by rw [if_neg (show ¬ (false = true) by decide)] at H; exact H
  clear H
  have H := H1
  clear H1
  exact absurd ((Option.some.inj H).trans HT_.out) (by simp)

end Go.Proofs.YtcphflfjhkeooaaDoor.Z
end

section
/- DevSpoilt, over numbers and lists: the law's function answers true. -/
namespace Go.Proofs.YtcphflfjhkeooaaDoor.Pure
open Go.RowKit Go.Proofs.YtcphflfjhkeooaaDoor Go.Proofs.YtcphflfjhkeooaaDoor.Z Go.Proofs.YtcphflfjhkeooaaDoorW.PrintWords
set_option linter.unusedVariables false
theorem DevSpoilt : ∀ (a0_0 : Int) (l0_1 : List (S39)) (l0_2 : List (S39)) (a0_3 : Bool) (a0_4 : Int) (a1 : Int) (a2 : ByteArray) (a3 : Int), (Lit.int .u32 a0_0).wf = true → l0_1.length ≤ maxLen → (∀ x ∈ l0_1, Z.G39 x) → l0_2.length ≤ maxLen → (∀ x ∈ l0_2, Z.G39 x) → (Lit.int .i64 a0_4).wf = true → (Lit.int .u32 a1).wf = true → a2.size ≤ 140737488351232 → (Lit.int .u32 a3).wf = true → ∃ k, Z.cambiumlaw03_DevSpoilt.f k a0_0 l0_1 l0_2 a0_3 a0_4 a1 a2 a3 = some true := by
  intro s bl wl d f n data m hs hl1 hg1 hl2 hg2 hf hn hd hm
  refine Ev.rounds (g := fun r => Z.cambiumlaw03_DevSpoilt.f r s bl wl d f n data m) ?_
  have hn := (wf32 hn).1
  have hi : Inp s bl wl := inp hg1 hg2 hl1
  unfold maxLen at hl2
  have stop : ∀ (s2 : Int) (bl2 wl2 : List Bk) (d2 : Bool) (f2 : Int), Ev (fun k => cambiumlaw03_DevSpoilt.j0 k n data m true s bl wl d f s2 bl2 wl2 d2 f2) true := by
    intro s2 bl2 wl2 d2 f2
    refine Ev.step (fun k => by rw [cambiumlaw03_DevSpoilt.j0]) ?_
    exact Ev.ifp rfl (Ev.const rfl)
  unfold cambiumlaw03_DevSpoilt.f
  refine Ev.bind lives_f (Ev.ifp rfl ?_)
  by_cases ok : okDev s bl wl
  · refine Ev.bind (spoil_ok ok d f n data) ?_
    have ok2 := okDev_spoil ok hn d f data
    refine Ev.ite (fun hw => ?_) (fun hw => stop _ _ _ _ _)
    cases d with
    | true => exact stop _ _ _ _ _
    | false =>
      unfold spoilS at hw ok2 ⊢
      by_cases c1 : n ≥ s
      · rw [if_pos c1] at hw; cases hw
      · rw [if_neg c1] at hw ok2 ⊢
        by_cases c2 : (data.size : Int) > 512
        · rw [if_pos c2] at hw; cases hw
        · rw [if_neg c2] at ok2 ⊢
          dsimp only at ok2 ⊢
          have e2 : (readS s bl wl false m).2 = (readS s (putL bl ⟨n, trimB data⟩) wl false m).2 := readS_err _ _ _ _ _ _ _
          have e3 : m ≠ n → (readS s bl wl false m).1 = (readS s (putL bl ⟨n, trimB data⟩) wl false m).1 := fun hmn => congrArg Prod.fst (readS_congr (readL_put ok.2.2.2.1.1 wl ⟨n, trimB data⟩ hmn).symm s false)
          have last : Ev (fun k => cambiumlaw03_DevSpoilt.j1 k n data false s bl wl false f s (putL bl ⟨n, trimB data⟩) wl false f) true := by
            refine Ev.step (fun k => by rw [cambiumlaw03_DevSpoilt.j1]) ?_
            refine Ev.ifn (by simp) ?_
            have lp : ∀ dd i : Nat, wl.length = i + dd → (∀ j (h : j < wl.length), j < i → wl[j].f0 ≠ n) → Ev (fun k => cambiumlaw03_DevSpoilt.l0 k n data wl (wl.length : Int) (i : Int) s (putL bl ⟨n, trimB data⟩) wl false f) true := by
              intro dd
              induction dd with
              | zero =>
                intro i hi2 hno
                refine Ev.step (fun k => by rw [cambiumlaw03_DevSpoilt.l0]) ?_
                refine Ev.ifn (by omega) (Ev.bind (read_ok ok2 false f n) ?_)
                have e1 : readS s (putL bl ⟨n, trimB data⟩) wl false n = (trimB data, 0) := by
                  unfold readS readL
                  rw [if_neg (by simp), if_neg c1]
                  have hf : wl.reverse.find? (fun x => x.f0 == n) = none := by
                    rw [List.find?_eq_none]
                    intro x hx
                    rw [List.mem_reverse] at hx
                    obtain ⟨j, hj, rfl⟩ := List.mem_iff_getElem.1 hx
                    simpa using hno j hj (by omega)
                  rw [hf]
                  simp only [has_put ok.2.2.2.1.1, if_pos]
                rw [e1]
                refine Ev.ifp rfl (Ev.bind (refCut data (by omega)) (Ev.const ?_))
                simp
              | succ dd ih =>
                intro i hi2 hno
                have hlt : i < wl.length := by omega
                refine Ev.step (fun k => by rw [cambiumlaw03_DevSpoilt.l0]) ?_
                refine Ev.ifp (by omega) (Ev.ifp (by omega) (Ev.ifp (by omega) (Ev.ite (fun hc => Ev.const rfl) (fun hc => ?_))))
                rw [rd_get wl i hlt] at hc
                rw [show wrap64 ((i : Int) + 1) = ((i + 1 : Nat) : Int) by rw [w64 (by omega) (by omega)]; omega]
                refine ih (i + 1) (by omega) (fun j hj hji => ?_)
                rcases Nat.lt_or_ge j i with h1 | h1
                · exact hno j hj h1
                · have : j = i := by omega
                  subst this; exact hc
            exact lp wl.length 0 (by omega) (fun j _ h => by omega)
          refine Ev.step (fun k => by rw [cambiumlaw03_DevSpoilt.j0]) ?_
          refine Ev.ifn (by simp) (Ev.bind (read_ok ok false f m) (Ev.bind (read_ok ok2 false f m) (Ev.ifp e2 (Ev.ite (fun hmn => last) (fun hmn => ?_)))))
          rw [e3 hmn]
          simpa using last
  · refine Ev.bind (spoil_bad ok hi d f n data) ?_
    exact Ev.ifn (by decide) (stop _ _ _ _ _)
end Go.Proofs.YtcphflfjhkeooaaDoor.Pure
end

section
/- cambium/cambiumlaw03.DevSpoilt: at every input the law's function returns true, and each argument reads afterwards as before. Conditions: none beyond the row's own. Printed by a program of this session (mp.py) over the pure statement in YtcphflfjhkeooaaDoorPureDevSpoilt. -/
namespace Go.Proofs.YtcphflfjhkeooaaDoor.devSpoilt
open Go.ChangeShapes Go.WideShapes Go.ChangeAt Go.RowKit
open Go.ChangeMaps (open_string shut_string)
set_option linter.unusedVariables false
set_option linter.unusedSimpArgs false
theorem own : ownKnob Tryd.prog.godebug = none := by kernel_rfl
theorem laidOut : laidOutB Tryd.prog = true := by kernel_rfl
theorem lstOf5 {α : Type} (l : List α) (h : l.length = 5) : ∃ z0 z1 z2 z3 z4, l = [z0, z1, z2, z3, z4] := by
  match l, h with
  | [z0, z1, z2, z3, z4], _ => exact ⟨z0, z1, z2, z3, z4, rfl⟩
theorem arrOf5 {α : Type} (a : Array α) (h : a.toList.length = 5) : ∃ z0 z1 z2 z3 z4, a = #[z0, z1, z2, z3, z4] := by
  obtain ⟨l⟩ := a
  obtain ⟨z0, z1, z2, z3, z4, rfl⟩ := lstOf5 l h
  exact ⟨z0, z1, z2, z3, z4, rfl⟩
def lay0 : Obj → Obj
  | .cells _ t frozen => .cells (((Pinned.numbers IntKind.u8 Pinned.utf8FirstZ : List (DataW Unit)).map (fun x => match x with | .lit (.int k v) => Value.int k v | _ => .int .u8 0)).toArray) t frozen
  | o => o
def lay1 : Obj → Obj
  | .cells _ t frozen => .cells #[.int .u8 128, .int .u8 191, .int .u8 160, .int .u8 191, .int .u8 128, .int .u8 159, .int .u8 144, .int .u8 191, .int .u8 128, .int .u8 143, .int .u8 0, .int .u8 0, .int .u8 0, .int .u8 0, .int .u8 0, .int .u8 0, .int .u8 0, .int .u8 0, .int .u8 0, .int .u8 0, .int .u8 0, .int .u8 0, .int .u8 0, .int .u8 0, .int .u8 0, .int .u8 0, .int .u8 0, .int .u8 0, .int .u8 0, .int .u8 0, .int .u8 0, .int .u8 0] t frozen
  | o => o
noncomputable def laidWorld (os : Os) : World :=
  { World.holding Tryd.prog os ⟨#[], #[], []⟩ with heap := ((World.holding Tryd.prog os ⟨#[], #[], []⟩).heap.modify 0 lay0).modify 1 lay1 }
theorem laid_met (os : Os) : laidMet Tryd.prog Rows.devSpoiltRow.laid ((laidWorld os).forCall (fun _ _ => 0) ⟨#[], #[.agg #[.int .u32 0, .slice none 0 0, .slice none 0 0, .bool false, .int .i64 0], .int .u32 0, .string ByteArray.empty, .int .u32 0], []⟩).memory :=
  laidMet_of_run' 8 (by kernel_rfl) (by kernel_rfl)
theorem reads (os : Os) {H : Type} (enc : TypeId × Value → H) : ∃ places, DataW.whole enc Tryd.prog ((laidWorld os).forCall (fun _ _ => 0) ⟨#[], #[.agg #[.int .u32 0, .slice none 0 0, .slice none 0 0, .bool false, .int .i64 0], .int .u32 0, .string ByteArray.empty, .int .u32 0], []⟩).memory Tryd.f11.params.toList Rows.devSpoiltSpec.vars false (#[.agg #[.int .u32 0, .slice none 0 0, .slice none 0 0, .bool false, .int .i64 0], .int .u32 0, .string ByteArray.empty, .int .u32 0] : Array Value).toList 8 = some ([.agg [.lit (.int .u32 0), .nil, .nil, .lit (.bool false), .lit (.int .i64 0)], .lit (.int .u32 0), .lit (.string []), .lit (.int .u32 0)], [], places) :=
  ⟨[], by kernel_rfl⟩
set_option maxHeartbeats 1000000 in
set_option maxRecDepth 100000 in
theorem lifted (os : Os) (started : os.Started) (H : Type) (enc : TypeId × Value → H) (F : Stop.Interp) :
    ReturnsInHanded {} Tryd.checked os 11 .any ((OpenSpec.ofChange Rows.devSpoiltSpec).preRow enc Tryd.prog Tryd.f11 Rows.devSpoiltRow.domain false Rows.devSpoiltRow.laid) (((OpenSpec.ofChange Rows.devSpoiltSpec).at F).post enc Tryd.prog Tryd.f11 false true false false) := by
  obtain ⟨places, hx⟩ := reads os enc
  refine returnsInHanded_of_row (C := Tryd.checked) (s := OpenSpec.ofChange Rows.devSpoiltSpec) own started (by kernel_rfl) Tryd.func11
    (witness_row_at (enc := enc) (C := Tryd.checked) false (laidWorld os) #[.agg #[.int .u32 0, .slice none 0 0, .slice none 0 0, .bool false, .int .i64 0], .int .u32 0, .string ByteArray.empty, .int .u32 0] rfl (by kernel_rfl) (by kernel_rfl) (by kernel_rfl)
      (OpenSpec.preRow_of_cond 8 hx (by kernel_rfl) (fun k hk => by cases hk) (by kernel_rfl) (laid_met os))) ?_
  intro W base args ds gs before hval0 hW hcn0_ hcnd hwz_ _ _ _
  have hsz : (DataW.weightsEach Tryd.prog (Tryd.f11.params.toList ++ Rows.devSpoiltSpec.plain.varTypes Tryd.prog) (ds ++ gs)).all (· ≤ reachBytes) = true := hwz_
  have hval : ∀ (j : Nat) t v, Tryd.f11.params[j]? = some t → args[j]? = some v → Value.okWide Tryd.prog W .any base t v := hval0
  have hW' := hW
  obtain ⟨p, q, hA0, hV, rfl, hfz, hnd⟩ := hW
  have hA : DataW.TrodAll enc Tryd.prog W 0 (fun _ => true) true Tryd.f11.params.toList args.toList ds p := hA0
  rw [Tryd.params11] at hA hval hsz
  obtain ⟨v0, vs0, d0, ds0, p0, q0, hargs, rfl, rfl, h0, r0⟩ := trodAll_cons hA
  obtain ⟨v1, vs1, d1, ds1, p1, q1, rfl, rfl, rfl, h1, r1⟩ := trodAll_cons r0
  obtain ⟨v2, vs2, d2, ds2, p2, q2, rfl, rfl, rfl, h2, r2⟩ := trodAll_cons r1
  obtain ⟨v3, vs3, d3, ds3, p3, q3, rfl, rfl, rfl, h3, r3⟩ := trodAll_cons r2
  obtain ⟨rfl, rfl, rfl⟩ := trodAll_nil r3
  obtain rfl : args = #[v0, v1, v2, v3] := by cases args; simp_all
  obtain ⟨rfl, rfl⟩ := trodVars_none hV
  have k0 := h0
  have lt0 : ∀ x ∈ p0, x.block < W.heap.size := by obtain ⟨m, hm⟩ := k0; exact DataW.trod_lt m _ _ _ hm
  obtain ⟨cs0, rfl, hsz_0⟩ := okWide_struct Tryd.underlying25 (hval 0 25 v0 rfl rfl)
  obtain ⟨fuel0, hf0⟩ := h0
  obtain ⟨ys0, n0, hl0, hy0, hx0, hfs0⟩ := Z.flat_fields Tryd.underlying25 (by kernel_rfl) (by kernel_rfl) hf0
  obtain ⟨q0_0, q0_1, q0_2, q0_3, q0_4, rfl⟩ := arrOf5 cs0 hl0
  obtain ⟨r0_0, r0_1, r0_2, r0_3, r0_4, rfl⟩ := lstOf5 ys0 hy0
  obtain ⟨a0_0, hk0_0, hG0_0, hB0_0⟩ := (Z.Opens.int Tryd.underlying22 (by kernel_rfl)).2 (hfs0 0 _ q0_0 rfl rfl)
  have hk0_0' : [q0_0] = [.int .u32 a0_0] := hk0_0
  simp only [List.cons.injEq, and_true] at hk0_0'
  subst hk0_0'
  clear hk0_0
  obtain ⟨A0_1, c0_1, l0_1, hcs0_1, hlc0_1, hcm0_1, hC0_1, hG0_1, hB0_1, hx0_1⟩ := Z.Opens.row Tryd.underlying23 Z.opens39 (of_decide_eq_true (by kernel_rfl)) (hfs0 1 _ q0_1 rfl rfl)
  simp only [List.cons.injEq, and_true] at hcs0_1
  subst hcs0_1
  have hlm0_1 : l0_1.length ≤ maxLen := Nat.le_trans hlc0_1 hcm0_1
  obtain ⟨A0_2, c0_2, l0_2, hcs0_2, hlc0_2, hcm0_2, hC0_2, hG0_2, hB0_2, hx0_2⟩ := Z.Opens.row Tryd.underlying23 Z.opens39 (of_decide_eq_true (by kernel_rfl)) (hfs0 2 _ q0_2 rfl rfl)
  simp only [List.cons.injEq, and_true] at hcs0_2
  subst hcs0_2
  have hlm0_2 : l0_2.length ≤ maxLen := Nat.le_trans hlc0_2 hcm0_2
  obtain ⟨a0_3, hk0_3, hG0_3, hB0_3⟩ := (Z.Opens.bool Tryd.underlying4 (by kernel_rfl)).2 (hfs0 3 _ q0_3 rfl rfl)
  have hk0_3' : [q0_3] = [.bool a0_3] := hk0_3
  simp only [List.cons.injEq, and_true] at hk0_3'
  subst hk0_3'
  clear hk0_3
  obtain ⟨a0_4, hk0_4, hG0_4, hB0_4⟩ := (Z.Opens.int Tryd.underlying3 (by kernel_rfl)).2 (hfs0 4 _ q0_4 rfl rfl)
  have hk0_4' : [q0_4] = [.int .i64 a0_4] := hk0_4
  simp only [List.cons.injEq, and_true] at hk0_4'
  subst hk0_4'
  clear hk0_4
  have k1 := h1
  have lt1 : ∀ x ∈ p1, x.block < W.heap.size := by obtain ⟨m, hm⟩ := k1; exact DataW.trod_lt m _ _ _ hm
  obtain ⟨a1, rfl, rfl, rfl, w1⟩ := open_int Tryd.underlying22 (hval 1 22 v1 rfl rfl) h1
  have k2 := h2
  have lt2 : ∀ x ∈ p2, x.block < W.heap.size := by obtain ⟨m, hm⟩ := k2; exact DataW.trod_lt m _ _ _ hm
  obtain ⟨a2, rfl, rfl, rfl, y2⟩ := open_string Tryd.underlying9 (hval 2 9 v2 rfl rfl) h2
  have w2 : a2.size ≤ 140737488351232 := by
    have z := sized_string hsz (j := 2) (t := 9) rfl rfl
    rw [Array.length_toList] at z
    exact z
  have k3 := h3
  have lt3 : ∀ x ∈ p3, x.block < W.heap.size := by obtain ⟨m, hm⟩ := k3; exact DataW.trod_lt m _ _ _ hm
  obtain ⟨a3, rfl, rfl, rfl, w3⟩ := open_int Tryd.underlying22 (hval 3 22 v3 rfl rfl) h3
  have hP := Pure.DevSpoilt a0_0 l0_1 l0_2 a0_3 a0_4 a1 a2 a3 hG0_0 hlm0_1 hG0_1 hlm0_2 hG0_2 hG0_4 w1 w2 w3
  obtain ⟨k, hk⟩ := hP
  refine (Z.cambiumlaw03_DevSpoilt.calls k a0_0 _ _ l0_1 _ _ l0_2 a0_3 a0_4 a1 a2 a3 true W hC0_1 hlc0_1 hC0_2 hlc0_2 hk).mono fun e W' ⟨he, bel0⟩ => ?_
  have bel : Below W.heap.size W W' := bel0
  subst he
  exact ⟨_, rfl, _, _, _, [], _, [], hW', trodAll_mk1 (shut_bool Tryd.underlying4 _), (trodAll_cons_mk (Below.trod laidOut (by kernel_rfl) (of_decide_eq_true (by kernel_rfl)) k0 bel lt0) (trodAll_cons_mk (Below.trod laidOut (by kernel_rfl) (of_decide_eq_true (by kernel_rfl)) k1 bel lt1) (trodAll_cons_mk (Below.trod laidOut (by kernel_rfl) (of_decide_eq_true (by kernel_rfl)) k2 bel lt2) (trodAll_cons_mk (Below.trod laidOut (by kernel_rfl) (of_decide_eq_true (by kernel_rfl)) k3 bel lt3) trodAll_mk0)))), rfl, bel.frame _, fun h => by cases h⟩
theorem over : Rows.DevSpoiltSaid :=
  OpenClaim.holds_of_cond 11 Tryd.f11 rfl rfl rfl rfl rfl rfl rfl ⟨rfl, rfl, rfl, rfl, rfl⟩ rfl rfl rfl rfl rfl (by kernel_rfl) Tryd.func11 (by kernel_rfl)
    (of_decide_eq_true (by kernel_rfl)) (by unfold Func.isWrapper; first | (rw [if_pos (by decide +kernel)]; kernel_rfl) | (rw [if_neg (by decide +kernel)]; exact ⟨rfl, rfl⟩))
    (fun os started H enc _ F => by rw [OpenClaim.pre_eq_preRow]; exact lifted os started H enc F)
theorem plain (f : FuncId) (fn : Func) (hf : Tryd.pinned.checked.prog.funcNamed "cambium/cambiumlaw03.DevSpoilt" = some f) (hfn : Tryd.pinned.checked.prog.funcs[f]? = some fn) :
    false = Tryd.pinned.checked.prog.looks [] ∧ ∀ (j : Nat) t, fn.params[j]? = some t → Tryd.pinned.checked.prog.wantsStandIn t = false := by
  obtain rfl : f = 11 := Option.some.inj ((show Tryd.prog.funcNamed "cambium/cambiumlaw03.DevSpoilt" = some 11 by kernel_rfl).symm.trans hf) |>.symm
  obtain rfl : fn = Tryd.f11 := (Option.some.inj (Tryd.func11.symm.trans hfn)).symm
  refine ⟨by kernel_rfl, fun j t ht => ?_⟩
  rw [Tryd.params11] at ht
  have hm := Array.mem_of_getElem? ht
  simp only [List.mem_toArray, List.mem_cons, List.not_mem_nil, or_false] at hm
  rcases hm with rfl | rfl | rfl | rfl <;> exact (show Tryd.prog.wantsStandIn _ = false by kernel_rfl)
theorem card : Rows.DevSpoiltCardSaid :=
  Claim7.holds_tied_plain_at .later [] _ _ _ _ over (fun _ h => by cases h) (by kernel_rfl) (fun _ h => by cases h) devSpoilt_row_tie rfl ⟨rfl, rfl⟩ (by kernel_rfl) rfl plain (by kernel_rfl)
end Go.Proofs.YtcphflfjhkeooaaDoor.devSpoilt
namespace Go.Proofs.YtcphflfjhkeooaaDoor
theorem devSpoilt_holds : Rows.DevSpoiltCardSaid := devSpoilt.card
#print axioms devSpoilt_holds
end Go.Proofs.YtcphflfjhkeooaaDoor
end
