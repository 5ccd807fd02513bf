/- This session's own texts, laid together (a part that several claims share). -/
import Derived.Test.YtnngbhdofgodiaaGreatDoorMB1
import Derived.Lib.IndexLaws
import Derived.Lib.Join
import Derived.Lib.SmallJoins
import Derived.Test.YtnngbhdofgodiaaGreatDoorProg
import Derived.Shelf.Strings.Builder1
import Derived.Shelf.Strings.Trim
import Derived.Shelf.Small.Utf8
import Derived.Shelf.Small.Strs
import Derived.Shelf.Strings.BuilderF
import Derived.Shelf.Strings.BuilderK
import Derived.Shelf.Strconv.Itoa0
import Derived.Shelf.Strings.Search1
import Derived.Shelf.Strings.Search2
import Derived.Shelf.Strings.Search3
import Derived.Shelf.LaysM
import Derived.Shelf.Strings.Shaped
import Derived.Shelf.Strings.Prefix
import Derived.Shelf.Unicode.Decode
import Derived.Shelf.Strings.Runes
import Derived.Shelf.Strings.AsciiSet
import Derived.Shelf.Unicode.DecodeSlow
import Derived.Shelf.Unicode.DecodeAny
import Derived.Shelf.Unicode.DecodeLast
import Derived.Shelf.Strings.BuilderCap
import Derived.Tactics
import Derived.Tactics2
import Derived.Defers
import Derived.Laws.Pointers
import Derived.Laws.LoneSync
import Derived.RegionTactic
import Derived.RegionCalls
import Derived.BigRegion
import Derived.ChangeAlike
import Derived.Laws.NewBlocks
import Derived.Deep.RegionHeld3
import Derived.Deep.DrawnRows
import Derived.Lib.BitFns
section
-- Printed by a program of this session (mp.py) out of the translation.
namespace Go.Proofs.YtnngbhdofgodiaaGreatDoor.Z
open Go.RowKit Go.Proofs.YtnngbhdofgodiaaGreatDoorW.PrintWords Go.Proofs.YtnngbhdofgodiaaGreatDoorW.PrintLast Go.Proofs.YtnngbhdofgodiaaGreatDoorW.PrintMore
attribute [local go_sem] max2_int min2_int max_two min_two max_three min_three max_four min_four   -- for this text's walks alone
set_option linter.unusedVariables false
set_option linter.unusedSimpArgs false

/-! ### item_Apply: function 10 -/
mutual
def item_Apply.l0 : Nat → List (S54) → List (S43) → Int → Int → Option ((List (S54)) × Int)
  | 0, _, _, _, _ => none
  | k + 1, x0, x22, x23, x24 => if x24 < x23 then (if 0 ≤ x24 then (if x24 < (x22.length : Int) then ((item_place.f k x0 ((rd_T43 x22 x24).f0)).bind fun bt222 => (if bt222.2 = true then (item_Apply.j1 k x0 bt222.1 bt222.2 x22 x23 x24 ((rd_T43 x22 x24).f1) ((rd_T43 x22 x24).f0) ((rd_T43 x22 x24).f1) ((rd_T43 x22 x24).f2)) else (item_Apply.j1 k x0 bt222.1 bt222.2 x22 x23 x24 false ((rd_T43 x22 x24).f0) ((rd_T43 x22 x24).f1) ((rd_T43 x22 x24).f2)))) else (none)) else (none)) else (some (x0, 0))
def item_Apply.j1 : Nat → List (S54) → Int → Bool → List (S43) → Int → Int → Bool → ByteArray → Bool → ByteArray → Option ((List (S54)) × Int)
  | 0, _, _, _, _, _, _, _, _, _, _ => none
  | k + 1, x0, x9, x10, x22, x23, x24, x35, x222000, x222001, x222002 => if x35 = true then (if 0 ≤ x9 then (if x9 < (x0.length : Int) then (item_Apply.l0 k (x0.set (x9 : Int).toNat (⟨(rd_T54 x0 x9).f0, x222002⟩ : S54)) x22 x23 (wrap64 (x24 + 1))) else (none)) else (none)) else (if x10 = true then ((slices_Delete_api_Item_api_Item.f x0 x9 (wrap64 (x9 + 1))).bind fun t225 => (item_Apply.l0 k t225 x22 x23 (wrap64 (x24 + 1)))) else (if x222001 = true then ((slices_Insert_api_Item_api_Item.f x0 x9 (([(⟨x222000, x222002⟩ : S54)] : List (S54)))).bind fun t231 => (item_Apply.l0 k t231 x22 x23 (wrap64 (x24 + 1)))) else (item_Apply.l0 k x0 x22 x23 (wrap64 (x24 + 1)))))
end
def item_Apply.f (k : Nat) (l0 : List (S54)) (l1 : List (S43)) : Option ((List (S54)) × Int) := (item_Check.f k l0).bind fun t211 => ((item_CheckChanges.f k l1).bind fun t212 => ((cmp_Or_api_Errno.f k (([t211, t212] : List Int))).bind fun t216 => (if t216 = 0 then ((slices_Clone_api_Item_api_Item.f l0).bind fun t217 => (item_Apply.l0 k t217 l1 (l1.length : Int) 0)) else (some (([] : List (S54)), t216)))))
theorem item_Apply.mono_l : ∀ k, (∀ y0 y1 y2 y3, LeO (item_Apply.l0 k y0 y1 y2 y3) (item_Apply.l0 (k + 1) y0 y1 y2 y3)) ∧ (∀ y0 y1 y2 y3 y4 y5 y6 y7 y8 y9, LeO (item_Apply.j1 k y0 y1 y2 y3 y4 y5 y6 y7 y8 y9) (item_Apply.j1 (k + 1) y0 y1 y2 y3 y4 y5 y6 y7 y8 y9))
  | 0 => ⟨fun _ _ _ _ r h => by simp [item_Apply.l0] at h, fun _ _ _ _ _ _ _ _ _ _ r h => by simp [item_Apply.j1] at h⟩
  | k + 1 => by
    obtain ⟨ih0, ih1⟩ := item_Apply.mono_l k
    refine ⟨?_, ?_⟩
    · intro y0 y1 y2 y3
      unfold item_Apply.l0
      repeat' first
      | (with_reducible exact ih0 _ _ _ _)
      | (with_reducible exact ih1 _ _ _ _ _ _ _ _ _ _)
      | (with_reducible exact cmp_Or_api_Errno.mono _ _)
      | (with_reducible exact item_Check.mono _ _)
      | (with_reducible exact item_CheckChanges.mono _ _)
      | (with_reducible exact item_place.mono _ _ _)
      | (with_reducible exact LeO.refl _)
      | (with_reducible exact LeO.none _)
      | (with_reducible refine LeO.ite ?_ ?_)
      | (with_reducible refine LeO.bind ?_ (fun _ => ?_))
      | exact ih0 _ _ _ _
      | exact ih1 _ _ _ _ _ _ _ _ _ _
      | exact cmp_Or_api_Errno.mono _ _
      | exact item_Check.mono _ _
      | exact item_CheckChanges.mono _ _
      | exact item_place.mono _ _ _
      | exact LeO.none _
      | refine LeO.ite ?_ ?_
      | refine LeO.bind ?_ (fun _ => ?_)
    intro y0 y1 y2 y3 y4 y5 y6 y7 y8 y9
    unfold item_Apply.j1
    repeat' first
    | (with_reducible exact ih0 _ _ _ _)
    | (with_reducible exact ih1 _ _ _ _ _ _ _ _ _ _)
    | (with_reducible exact cmp_Or_api_Errno.mono _ _)
    | (with_reducible exact item_Check.mono _ _)
    | (with_reducible exact item_CheckChanges.mono _ _)
    | (with_reducible exact item_place.mono _ _ _)
    | (with_reducible exact LeO.refl _)
    | (with_reducible exact LeO.none _)
    | (with_reducible refine LeO.ite ?_ ?_)
    | (with_reducible refine LeO.bind ?_ (fun _ => ?_))
    | exact ih0 _ _ _ _
    | exact ih1 _ _ _ _ _ _ _ _ _ _
    | exact cmp_Or_api_Errno.mono _ _
    | exact item_Check.mono _ _
    | exact item_CheckChanges.mono _ _
    | exact item_place.mono _ _ _
    | exact LeO.none _
    | refine LeO.ite ?_ ?_
    | refine LeO.bind ?_ (fun _ => ?_)
theorem item_Apply.mono : ∀ a0 a1 k, LeO (item_Apply.f k a0 a1) (item_Apply.f (k + 1) a0 a1) := by
  intro a0 a1 k
  obtain ⟨ih0, ih1⟩ := item_Apply.mono_l k
  unfold item_Apply.f
  repeat' first
      | (with_reducible exact ih0 _ _ _ _)
      | (with_reducible exact ih1 _ _ _ _ _ _ _ _ _ _)
      | (with_reducible exact cmp_Or_api_Errno.mono _ _)
      | (with_reducible exact item_Check.mono _ _)
      | (with_reducible exact item_CheckChanges.mono _ _)
      | (with_reducible exact item_place.mono _ _ _)
      | (with_reducible exact LeO.refl _)
      | (with_reducible exact LeO.none _)
      | (with_reducible refine LeO.ite ?_ ?_)
      | (with_reducible refine LeO.bind ?_ (fun _ => ?_))
      | exact ih0 _ _ _ _
      | exact ih1 _ _ _ _ _ _ _ _ _ _
      | exact cmp_Or_api_Errno.mono _ _
      | exact item_Check.mono _ _
      | exact item_CheckChanges.mono _ _
      | exact item_place.mono _ _ _
      | exact LeO.none _
      | refine LeO.ite ?_ ?_
      | refine LeO.bind ?_ (fun _ => ?_)
set_option maxHeartbeats 8000000 in
set_option maxRecDepth 100000 in
theorem item_Apply.calls (k : Nat) (A0 : Option Addr) (c0 : Nat) (l0 : List (S54)) (A1 : Option Addr) (c1 : Nat) (l1 : List (S43)) (r1 : List (S54)) (r2 : Int) (w : World) (hr0 : Kd.C k54 w A0 l0.length l0) (hc0 : l0.length ≤ c0) (hr1 : Kd.C k43 w A1 l1.length l1) (hc1 : l1.length ≤ c1) (h : item_Apply.f k l0 l1 = some (r1, r2)) :
    Calls Tryz.prog 10 #[.slice A0 l0.length c0, .slice A1 l1.length c1] w fun e w' => ∃ v0_ : Value, e = .returned (.tuple #[v0_, .int .i64 r2]) ∧ Kd.R k54 54 w' w.heap.size (fun _ => True) v0_ r1 ∧ Below w.heap.size w w' := by
  have hu43 := Tryz.underlying43
  have hu54 := Tryz.underlying54
  have HR0 := Aside0.mk hr0
  have HC0 := Aside0.mk hc0
  clear hr0 hc0
  have HR1 := Aside0.mk hr1
  have HC1 := Aside0.mk hc1
  clear hr1 hc1
  have HB := Aside0.mk (Below.refl w.heap.size w)
  have H : ((item_Check.f k l0).bind fun t211 => ((item_CheckChanges.f k l1).bind fun t212 => ((cmp_Or_api_Errno.f k (([t211, t212] : List Int))).bind fun t216 => (if t216 = 0 then ((slices_Clone_api_Item_api_Item.f l0).bind fun t217 => (item_Apply.l0 k t217 l1 (l1.length : Int) 0)) else (some (([] : List (S54)), t216)))))) = some (r1, r2) := h
  clear h
  replace H := Option.bind_eq_some_iff.mp H
  obtain ⟨t211, A30, H⟩ := H
  replace H : ((item_CheckChanges.f k l1).bind fun t212 => ((cmp_Or_api_Errno.f k (([t211, t212] : List Int))).bind fun t216 => (if t216 = 0 then ((slices_Clone_api_Item_api_Item.f l0).bind fun t217 => (item_Apply.l0 k t217 l1 (l1.length : Int) 0)) else (some (([] : List (S54)), t216))))) = some (r1, r2) := H
  have A3 := Aside0.mk A30
  clear A30
  replace H := Option.bind_eq_some_iff.mp H
  obtain ⟨t212, A40, H⟩ := H
  replace H : ((cmp_Or_api_Errno.f k (([t211, t212] : List Int))).bind fun t216 => (if t216 = 0 then ((slices_Clone_api_Item_api_Item.f l0).bind fun t217 => (item_Apply.l0 k t217 l1 (l1.length : Int) 0)) else (some (([] : List (S54)), t216)))) = some (r1, r2) := H
  have A4 := Aside0.mk A40
  clear A40
  obtain ⟨y213, hy213⟩ : ∃ y_ : List Int, y_ = (([t211, t212] : List Int)) := ⟨_, rfl⟩
  replace H : ((cmp_Or_api_Errno.f k y213).bind fun t216 => (if t216 = 0 then ((slices_Clone_api_Item_api_Item.f l0).bind fun t217 => (item_Apply.l0 k t217 l1 (l1.length : Int) 0)) else (some (([] : List (S54)), t216)))) = some (r1, r2) := by first | (rw [hy213]; with_reducible exact H) | (have H2_ := (Option.bind_some _ _).symm.trans H; rw [hy213]; with_reducible exact H2_) | (have H2_ := (Option.bind_some _ _).symm.trans H; with_reducible exact H2_) | with_reducible exact H | (rw [hy213]; exact H) | exact H
  have Ny213 := Aside0.mk hy213
  clear hy213
  replace H := Option.bind_eq_some_iff.mp H
  obtain ⟨t216, A50, H⟩ := H
  replace H : (if t216 = 0 then ((slices_Clone_api_Item_api_Item.f l0).bind fun t217 => (item_Apply.l0 k t217 l1 (l1.length : Int) 0)) else (some (([] : List (S54)), t216))) = some (r1, r2) := H
  have A5 := Aside0.mk A50
  clear A50
  by_cases c6 : t216 = 0
  · rw [if_pos c6] at H
    have c6b0 : (t216 == 0) = true := beq_iff_eq.mpr c6
    have c6b1 : (t216 != 0) = false := bne_eq_false_iff_eq.mpr c6
    clear c6
    replace H := Option.bind_eq_some_iff.mp H
    obtain ⟨t217, A70, H⟩ := H
    replace H : (item_Apply.l0 k t217 l1 (l1.length : Int) 0) = some (r1, r2) := H
    have A7 := Aside0.mk A70
    clear A70
    have H' := Aside0.mk H
    clear H
    go_enter Tryz.func10, Tryz.ntmps10
    go_wp2_with (first | ((with_reducible refine gate_callee (f := 18) rfl ?_); refine gl_ (some 12) Tryz.func18 #[.slice A0 l0.length c0] ?_; (with_reducible refine (item_Check.calls k _ _ l0 t211 _ ?side1 ?side2 A3.out).mono ?_); (case side1 => repeat (first | exact HR0.out | (with_reducible refine Kd.C_alloc ?_ _) | (with_reducible refine Kd.C_drewN ?_ _) | (with_reducible refine Kd.C_drew ?_))); (case side2 => exact HC0.out); rintro e w8 ⟨rfl, hb⟩; refine ⟨_, rfl, ?_⟩; replace HB := hb_ hb; (try clear hb); (try clear hb2); (try clear hk); (try clear hi)) | ((with_reducible refine gate_callee (f := 19) rfl ?_); refine gl_ (some 14) Tryz.func19 #[.slice A1 l1.length c1] ?_; (with_reducible refine (item_CheckChanges.calls k _ _ l1 t212 _ ?side1 ?side2 A4.out).mono ?_); (case side1 => exact cb_ HR1); (case side2 => exact HC1.out); rintro e w9 ⟨rfl, hb⟩; refine ⟨_, rfl, ?_⟩; replace HB := hb_ hb; (try clear hb); (try clear hb2); (try clear hk); (try clear hi)) | ((with_reducible refine gate_dst (N := 15) rfl ?_); refine Kd.R_lit (Kd.int .i64) _ 26 ?hg (N := 15) ?hd (xs := ([t211, t212] : List Int)) (inner := [.int .i64 t211, .int .i64 t212]) (ok := fun _ => True) (okp := fun _ => True) ?hr ?hp (fun _ hk => hk) trivial (Below.refl _ _) (Nat.le_refl _) (by simp) ?_; (case hd => rfl); (case hg => rfl); (case hr => first | (go_simp; done) | (go_simp; rfl)); (case hp => exact (Reps.one (show Kd.M (Kd.int .i64) _ _ _ t211 [.int .i64 t211] from rfl) (Reps.one (show Kd.M (Kd.int .i64) _ _ _ t212 [.int .i64 t212] from rfl) (Reps.none _ _)))); intro v214 w10 ho11 hb hg_ hnew_; clear hg_ hnew_; (first | rw [← Ny213.out] at ho11 | (simp only [Int.reduceToNat] at ho11; rw [← Ny213.out] at ho11)); have HO215 := rl_ ho11; replace HB := hb_ hb; clear hb ho11; obtain ⟨Ao12, co12, eo12⟩ := Kd.R_slice HO215.out; subst eo12) | ((with_reducible refine gate_callee (f := 17) rfl ?_); refine gl_ (some 16) Tryz.func17 #[.slice Ao12 y213.length co12] ?_; (with_reducible refine (cmp_Or_api_Errno.calls k _ _ y213 t216 _ ?side1 ?side2 A5.out).mono ?_); (case side1 => exact cr_ HO215); (case side2 => exact (Kd.R_reads' HO215.out).2.1); rintro e w' ⟨rfl, ⟨nd, rfl⟩⟩; refine ⟨_, rfl, ?_⟩) | ((with_reducible refine gate_callee (f := 20) rfl ?_); refine gl_ (some 21) Tryz.func20 #[.slice A0 l0.length c0] ?_; (with_reducible refine (slices_Clone_api_Item_api_Item.calls _ _ l0 t217 _ ?side1 ?side2 A7.out).mono ?_); (case side1 => repeat (first | exact (Kd.C_below HR0.out bel_) | (with_reducible refine Kd.C_alloc ?_ _) | (with_reducible refine Kd.C_drewN ?_ _) | (with_reducible refine Kd.C_drew ?_))); (case side2 => exact HC0.out); rintro e w13 ⟨v218, rfl, ho0, hb⟩; refine ⟨_, rfl, ?_⟩; have HO219 := rl_ ho0; replace HO215 := rb_ HO215 hb; replace HB := hb_ hb; (try clear hb); (try clear hb2); (try clear hk); (try clear hi); (try clear ho0)))
    go_loopg [0, 24] k (fun kq v0 v24 w' => ∃ (x0_1 : List (S54)) (x24_1 : Int), v24 = .int .i64 x24_1 ∧ Aside0 (item_Apply.l0 kq x0_1 l1 (l1.length : Int) x24_1 = some (r1, r2)) ∧ Aside0 (kq ≤ k) ∧ Aside0 (Kd.R k54 54 w' w.heap.size (fun _ => True) v0 x0_1) ∧ Aside0 (Below w.heap.size w w'))
    case atStart => exact ⟨(t217), (0), (by first | rfl | (simp; done) | (simp [*]; done)), H', ⟨Nat.le_refl _⟩, ⟨ra_ HO219⟩, ⟨bel_⟩⟩
    case round =>
      clear H'
      try clear c1
      try clear c2
      try clear p2
      try clear c6
      try clear c6b0
      try clear c6b1
      try clear c10
      obtain ⟨x0_1, x24_1, rfl, HA, HK1, HO_0, HB⟩ := hrel
      cases gk with
      | zero => exact absurd HA.out (by simp [item_Apply.l0])
      | succ k1 =>
        have H := HA.out
        clear HA
        simp only [item_Apply.l0] at H
        by_cases c14 : x24_1 < (l1.length : Int)
        · rw [if_pos c14] at H
          have c14b0 : decide (x24_1 < (l1.length : Int)) = true := decide_eq_true c14
          clear c14
          by_cases c15 : 0 ≤ x24_1
          · rw [if_pos c15] at H
            have c15b0 : decide (0 ≤ x24_1) = true := decide_eq_true c15
            clear c15
            by_cases c16 : x24_1 < (l1.length : Int)
            · rw [if_pos c16] at H
              have c16b0 : decide (x24_1 < (l1.length : Int)) = true := decide_eq_true c16
              clear c16
              replace H := Option.bind_eq_some_iff.mp H
              obtain ⟨⟨t222, t223⟩, A170, H⟩ := H
              replace H : (if t223 = true then (item_Apply.j1 k1 x0_1 t222 t223 l1 (l1.length : Int) x24_1 ((rd_T43 l1 x24_1).f1) ((rd_T43 l1 x24_1).f0) ((rd_T43 l1 x24_1).f1) ((rd_T43 l1 x24_1).f2)) else (item_Apply.j1 k1 x0_1 t222 t223 l1 (l1.length : Int) x24_1 false ((rd_T43 l1 x24_1).f0) ((rd_T43 l1 x24_1).f1) ((rd_T43 l1 x24_1).f2))) = some (r1, r2) := H
              have A17 := Aside0.mk A170
              clear A170
              have HC18 := Aside0.mk H
              clear H
              have p220 : 0 ≤ (x24_1 : Int) := of_decide_eq_true (by first | (with_reducible assumption) | assumption)
              have q220 : x24_1 < (l1.length : Int) := of_decide_eq_true (by first | (with_reducible assumption) | assumption)
              obtain ⟨ad220, e220, hx220_0, hx220_1, hx220_2⟩ := at_T43 HR1.out x24_1 p220 q220
              cases e220
              replace hx220_0 := (HB.out.cell (World.block_lt_of_cell? w _ hx220_0)).trans hx220_0
              replace hx220_1 := (HB.out.cell (World.block_lt_of_cell? w _ hx220_1)).trans hx220_1
              replace hx220_2 := (HB.out.cell (World.block_lt_of_cell? w _ hx220_2)).trans hx220_2
              replace p220 := eq_true p220
              replace q220 := eq_true q220
              go_upto_region 9 with (first | ((with_reducible refine gate_dst (N := 8) rfl ?_); refine bx_ (N := 8) (cs := #[.string (⟨#[]⟩ : ByteArray), .bool false, .string (⟨#[]⟩ : ByteArray)]) (t := 43) ?_; intro gb221 hg w19 hbox hb; have n0_ := Aside0.mk (Kd.R_below (ra_ HO_0) hb); have n1_ := Aside0.mk (below_step bel_ hb); have n2_ := Aside0.mk (hbox); have n3_ := Aside0.mk ((by rw [hg]; exact (below_size bel_) : w.heap.size ≤ gb221)); have n4_ := Aside0.mk ((by rw [hg]; exact (below_size bel_) : w.heap.size ≤ gb221)); clear HO_0; clear HB; have HO_0 := n0_; have HB := n1_; have BK221 := n2_; have GW221 := n3_; have GE221 := n4_; clear n0_ n1_ n2_ n3_ n4_; clear hb hbox hg; have hcz20_0 : w19.cell? ⟨gb221, 0, none⟩ = some (.string (⟨#[]⟩ : ByteArray)) := (blk_cell BK221.out 0).trans rfl; have hcz20_1 : w19.cell? ⟨gb221, 1, none⟩ = some (.bool false) := (blk_cell BK221.out 1).trans rfl; have hcz20_2 : w19.cell? ⟨gb221, 2, none⟩ = some (.string (⟨#[]⟩ : ByteArray)) := (blk_cell BK221.out 2).trans rfl; have hfz20_0 := blk_frozen BK221.out 0; have hfz20_1 := blk_frozen BK221.out 1; have hfz20_2 := blk_frozen BK221.out 2; obtain ⟨Ao21, co21, eo21⟩ := Kd.R_slice HO_0.out; subst eo21) | ((with_reducible refine gate_callee (f := 21) rfl ?_); refine gl_ (some 32) Tryz.func21 #[.slice Ao21 x0_1.length co21, .string ((rd_T43 l1 x24_1).f0)] ?_; (with_reducible refine (item_place.calls k1 _ _ x0_1 ((rd_T43 l1 x24_1).f0) t222 t223 _ ?side1 ?side2 A17.out).mono ?_); (case side1 => exact (Kd.R_reads' (rw_ HO_0)).2.2); (case side2 => exact (Kd.R_reads' HO_0.out).2.1); rintro e w22 ⟨rfl, hb⟩; refine ⟨_, rfl, ?_⟩; have n0_ := Aside0.mk (Kd.R_below (rw_ HO_0) hb); have n1_ := Aside0.mk (blk_below (g := gb221) (o := .cells #[.string ((rd_T43 l1 x24_1).f0), .bool ((rd_T43 l1 x24_1).f1), .string ((rd_T43 l1 x24_1).f2)] 43 (0, 0)) (bs_) hb); have n2_ := Aside0.mk (below_step bel_ hb); clear HO_0; clear BK221; clear HB; have HO_0 := n0_; have BK221 := n1_; have HB := n2_; clear n0_ n1_ n2_; (try clear hb); (try clear hb2); (try clear hk); (try clear hi)))
              (try simp only [Act.put, List.setIfInBounds_toArray, List.set_cons_zero, List.set_cons_succ])
              go_cut [35] (fun v35 wc => ∃ (kq : Nat) (x35_17 : Bool), v35 = .bool x35_17 ∧ Aside0 (item_Apply.j1 kq x0_1 t222 t223 l1 (l1.length : Int) x24_1 x35_17 ((rd_T43 l1 x24_1).f0) ((rd_T43 l1 x24_1).f1) ((rd_T43 l1 x24_1).f2) = some (r1, r2)) ∧ Aside0 (kq ≤ k1) ∧ Aside0 (Kd.R k54 54 wc w.heap.size (fun _ => True) (.slice Ao21 x0_1.length co21) x0_1) ∧ Aside0 (wc.heap[gb221]? = some (.cells #[.string ((rd_T43 l1 x24_1).f0), .bool ((rd_T43 l1 x24_1).f1), .string ((rd_T43 l1 x24_1).f2)] 43 (0, 0))) ∧ Aside0 (Below w.heap.size w wc))
              case first =>
                have H := HC18.out
                clear HC18
                by_cases c23 : t223 = true
                · subst c23
                  have H1 : (item_Apply.j1 k1 x0_1 t222 true l1 (l1.length : Int) x24_1 ((rd_T43 l1 x24_1).f1) ((rd_T43 l1 x24_1).f0) ((rd_T43 l1 x24_1).f1) ((rd_T43 l1 x24_1).f2)) = some (r1, r2) := by rw [if_pos rfl] at H; exact H
                  clear H
                  have H := H1
                  clear H1
                  have H' := Aside0.mk H
                  clear H
                  obtain ⟨hcz24_0, hcz24_1, hcz24_2⟩ := cl3_ BK221
                  obtain ⟨hfz24_0, hfz24_1, hfz24_2⟩ := fz3_ BK221
                  go_wp2
                  go_meet
                  case rel => exact ⟨_, ((rd_T43 l1 x24_1).f1), (by first | rfl | (simp; done) | (simp [*]; done)), H', ⟨by have := HK1.out; first | omega | exact Nat.le_refl _⟩, ⟨ra_ HO_0⟩, ⟨bk_ BK221⟩, ⟨bel_⟩⟩
                replace c23 := Bool.eq_false_iff.mpr c23
                subst c23
                have H1 : (item_Apply.j1 k1 x0_1 t222 false l1 (l1.length : Int) x24_1 false ((rd_T43 l1 x24_1).f0) ((rd_T43 l1 x24_1).f1) ((rd_T43 l1 x24_1).f2)) = some (r1, r2) := by rw [if_neg (show ¬ (false = true) by decide)] at H; exact H
                clear H
                have H := H1
                clear H1
                have H' := Aside0.mk H
                clear H
                go_wp2
                go_meet
                case rel => exact ⟨_, (false), (by first | rfl | (simp; done) | (simp [*]; done)), H', ⟨by have := HK1.out; first | omega | exact Nat.le_refl _⟩, ⟨ra_ HO_0⟩, ⟨bk_ BK221⟩, ⟨bel_⟩⟩
              case rest =>
                clear HC18
                try clear c1
                try clear c2
                try clear p2
                try clear q2
                try clear hx2
                try clear c6
                try clear c6b0
                try clear c6b1
                try clear c10
                try clear c14
                try clear c14b0
                try clear c15
                try clear c15b0
                try clear c16
                try clear c16b0
                try clear c17
                try clear c18
                try clear c19
                try clear c20
                try clear c21
                try clear p22
                try clear q22
                try clear hx22
                try clear c23
                try clear hcz20_0
                try clear hcz20_1
                try clear hcz20_2
                try clear hcz24_0
                try clear hcz24_1
                try clear hcz24_2
                try clear hfz20_0
                try clear hfz20_1
                try clear hfz20_2
                try clear hfz24_0
                try clear hfz24_1
                try clear hfz24_2
                try clear hx220_0
                try clear hx220_1
                try clear hx220_2
                try clear p2
                try clear p220
                try clear q220
                obtain ⟨kq, x35_17, rfl, HA, HJ17, HO_0, BK221, HB⟩ := hcut
                cases kq with
                | zero => exact absurd HA.out (by simp [item_Apply.j1])
                | succ kj17 =>
                  have H := HA.out
                  clear HA
                  simp only [item_Apply.j1] at H
                  by_cases c25 : x35_17 = true
                  · subst c25
                    have H1 : (if 0 ≤ t222 then (if t222 < (x0_1.length : Int) then (item_Apply.l0 kj17 (x0_1.set (t222 : Int).toNat (⟨(rd_T54 x0_1 t222).f0, ((rd_T43 l1 x24_1).f2)⟩ : S54)) l1 (l1.length : Int) (wrap64 (x24_1 + 1))) else (none)) else (none)) = some (r1, r2) := by rw [if_pos rfl] at H; exact H
                    clear H
                    have H := H1
                    clear H1
                    by_cases c26 : 0 ≤ t222
                    · rw [if_pos c26] at H
                      have c26b0 : decide (0 ≤ t222) = true := decide_eq_true c26
                      clear c26
                      by_cases c27 : t222 < (x0_1.length : Int)
                      · rw [if_pos c27] at H
                        have c27b0 : decide (t222 < (x0_1.length : Int)) = true := decide_eq_true c27
                        clear c27
                        obtain ⟨y224, hy224⟩ : ∃ y_ : List (S54), y_ = (x0_1.set (t222 : Int).toNat (⟨(rd_T54 x0_1 t222).f0, ((rd_T43 l1 x24_1).f2)⟩ : S54)) := ⟨_, rfl⟩
                        replace H : (item_Apply.l0 kj17 y224 l1 (l1.length : Int) (wrap64 (x24_1 + 1))) = some (r1, r2) := by first | (rw [hy224]; with_reducible exact H) | (have H2_ := (Option.bind_some _ _).symm.trans H; rw [hy224]; with_reducible exact H2_) | (have H2_ := (Option.bind_some _ _).symm.trans H; with_reducible exact H2_) | with_reducible exact H | (rw [hy224]; exact H) | exact H
                        have Ny224 := Aside0.mk hy224
                        clear hy224
                        have H' := Aside0.mk H
                        clear H
                        obtain ⟨hcz29_0, hcz29_1, hcz29_2⟩ := cl3_ BK221
                        obtain ⟨hfz29_0, hfz29_1, hfz29_2⟩ := fz3_ BK221
                        have p28 : 0 ≤ (t222 : Int) := of_decide_eq_true (by first | (with_reducible assumption) | assumption)
                        have q28 : (t222 : Int) < ((x0_1.length : Int) : Int) := of_decide_eq_true (by first | (with_reducible assumption) | assumption)
                        obtain ⟨go28, co28, eo28, gb28, gl28, cl28, HG28⟩ := Kd.R_form HO_0.out (by omega)
                        (first | cases eo28 | (injection eo28 with ea_ en_ ec_; (first | subst ea_ | (injection ea_ with ea_; subst ea_)); subst ec_; clear en_))
                        have GB28 := Aside0.mk gb28
                        have GG28 := Aside0.mk HG28
                        clear gb28 gl28 HG28
                        obtain ⟨ce28, hcl28, hM28, hcc28, hfr28⟩ := Kd.R_elem HO_0.out z54 (t222 : Int) p28 q28
                        obtain rfl := k54_openM hM28
                        have hx28_0 : wc.cell? ⟨go28, (t222 : Int).toNat * 2, none⟩ = some (.string ((rd_T54 x0_1 t222).f0)) := hcc28 0 _ rfl
                        have hx28_1 : wc.cell? ⟨go28, (t222 : Int).toNat * 2 + 1, none⟩ = some (.string ((rd_T54 x0_1 t222).f1)) := hcc28 1 _ rfl
                        have hf28_0 : wc.frozen? ⟨go28, (t222 : Int).toNat * 2, none⟩ = false := hfr28 0
                        have hf28_1 : wc.frozen? ⟨go28, (t222 : Int).toNat * 2 + 1, none⟩ = false := hfr28 1
                        clear hcl28 hcc28 hfr28 hM28
                        replace p28 := eq_true p28
                        replace q28 := eq_true q28
                        have HX30 := Aside0.mk (show Kd.R k54 54 wc w.heap.size (fun _ => True) (.slice (some ⟨go28, 0, none⟩) x0_1.length co21) x0_1 from (ra_ HO_0))
                        obtain ⟨ce30, hcl30, hM30, hcc30, hfr30⟩ := Kd.R_elem HX30.out z54 (t222 : Int) (of_decide_eq_true (by first | (with_reducible assumption) | assumption)) (by have h_ : (t222 : Int) < ((x0_1.length : Int) : Int) := of_decide_eq_true (by first | (with_reducible assumption) | assumption); first | exact h_ | (have e_ := (Kd.R_reads' HO_0.out).1; omega) | simpa using h_)
                        obtain rfl := k54_openM hM30
                        have HP30 := Kd.R_seg HX30.out (t222 : Int) (of_decide_eq_true (by first | (with_reducible assumption) | assumption)) (by have h_ : (t222 : Int) < ((x0_1.length : Int) : Int) := of_decide_eq_true (by first | (with_reducible assumption) | assumption); first | exact h_ | (have e_ := (Kd.R_reads' HO_0.out).1; omega) | simpa using h_) (seg := [.string ((rd_T43 l1 x24_1).f2)]) (j := 1) hcl30 hcc30 (show 2 ≤ 2 from by decide) (x' := (⟨(rd_T54 x0_1 t222).f0, ((rd_T43 l1 x24_1).f2)⟩ : S54)) (k54_mkM _ _ _ (⟨(rd_T54 x0_1 t222).f0, ((rd_T43 l1 x24_1).f2)⟩ : S54) ) (fun _ hk => hk)
                        have hx30_1 := hcc30 1 _ rfl
                        (try simp only [show (k54).sz = 2 from rfl, Nat.mul_one, Nat.add_zero] at hx30_1)
                        have hf30_1 := hfr30 1
                        (try simp only [show (k54).sz = 2 from rfl, Nat.mul_one, Nat.add_zero] at hf30_1)
                        clear hcl30 hcc30 hfr30 hM30
                        go_wp2_with (first | ((with_reducible refine gate_store (t := 9) (p := 46) rfl ?_); refine store_event (t := 9) (p := 46) (v := ?vo_w31) (w1 := (wc.setCell ⟨go28, (t222 : Int).toNat * 2 + 1, none⟩ (.string ((rd_T43 l1 x24_1).f2)))) ?hg ?ho ?hn ?hr ?_; (case ho => rfl); (case hg => rfl); (case hn => rfl); (case hr => first | (go_simp; done) | (go_simp; rfl)); intro w31 hw; have hg : wc.grownBy w31 (some go28) := (by rw [hw]; exact HP30.2); have hp_ : Kd.R k54 54 w31 w.heap.size (fun _ => True) (.slice (some ⟨go28, 0, none⟩) x0_1.length co21) y224 := (by rw [hw, Ny224.out]; exact HP30.1); clear HP30; replace BK221 := Aside0.mk (blk_grown (bk_ BK221) hg (Kd.R_ne HO_0.out BK221.out (by decide))); replace HB := Aside0.mk ((by rw [hw]; exact below_set (HB.out) GB28.out : Below w.heap.size w w31)); replace HO_0 := Aside0.mk (hp_); clear hg hw hp_))
                        go_roundg kj17
                        case measure => have := HK1.out; have := HJ17.out; omega
                        case rel => exact ⟨(y224), (wrap64 (x24_1 + 1)), (by first | rfl | (simp; done) | (simp [*]; done)), H', ⟨by have := HK1.out; have := HJ17.out; omega⟩, ⟨ra_ HO_0⟩, ⟨bel_⟩⟩
                      rw [if_neg c27] at H
                      exact absurd H (by simp)
                    rw [if_neg c26] at H
                    exact absurd H (by simp)
                  replace c25 := Bool.eq_false_iff.mpr c25
                  subst c25
                  have H1 : (if t223 = true then ((slices_Delete_api_Item_api_Item.f x0_1 t222 (wrap64 (t222 + 1))).bind fun t225 => (item_Apply.l0 kj17 t225 l1 (l1.length : Int) (wrap64 (x24_1 + 1)))) else (if ((rd_T43 l1 x24_1).f1) = true then ((slices_Insert_api_Item_api_Item.f x0_1 t222 (([(⟨((rd_T43 l1 x24_1).f0), ((rd_T43 l1 x24_1).f2)⟩ : S54)] : List (S54)))).bind fun t231 => (item_Apply.l0 kj17 t231 l1 (l1.length : Int) (wrap64 (x24_1 + 1)))) else (item_Apply.l0 kj17 x0_1 l1 (l1.length : Int) (wrap64 (x24_1 + 1))))) = some (r1, r2) := by rw [if_neg (show ¬ (false = true) by decide)] at H; exact H
                  clear H
                  have H := H1
                  clear H1
                  by_cases c32 : t223 = true
                  · subst c32
                    have H1 : ((slices_Delete_api_Item_api_Item.f x0_1 t222 (wrap64 (t222 + 1))).bind fun t225 => (item_Apply.l0 kj17 t225 l1 (l1.length : Int) (wrap64 (x24_1 + 1)))) = some (r1, r2) := by rw [if_pos rfl] at H; exact H
                    clear H
                    have H := H1
                    clear H1
                    replace H := Option.bind_eq_some_iff.mp H
                    obtain ⟨t225, A330, H⟩ := H
                    replace H : (item_Apply.l0 kj17 t225 l1 (l1.length : Int) (wrap64 (x24_1 + 1))) = some (r1, r2) := H
                    have A33 := Aside0.mk A330
                    clear A330
                    have H' := Aside0.mk H
                    clear H
                    go_wp2_with (first | ((with_reducible refine gate_callee (f := 22) rfl ?_); refine gl_ (some 53) Tryz.func22 #[.slice Ao21 x0_1.length co21, .int .i64 t222, .int .i64 (wrap64 (t222 + 1))] ?_; (with_reducible refine (slices_Delete_api_Item_api_Item.calls (fun k_ => some k_ = (.slice Ao21 x0_1.length co21 : Value).ownBlock) (.slice Ao21 x0_1.length co21) x0_1 t222 (wrap64 (t222 + 1)) t225 w _ ?side1 ?side2 A33.out).mono ?_); (case side1 => repeat (first | (with_reducible first | exact HB.out | apply below_alloc | apply pw_below_drewN | apply below_drew1 | refine below_set ?_ GE221.out) | exact HB.out)); (case side2 => exact Kd.R_tight rfl HO_0.out); rintro e w34 ⟨v226, rfl, ho0, hb, hkp⟩; refine ⟨_, rfl, ?_⟩; have HO227 := Aside0.mk (Kd.R_mono (ok' := fun k_ => True) ho0 (fun k_ hk_ => trivial)); replace BK221 := Aside0.mk (blk_kept (bk_ BK221) hkp (fun hs_ => (fun e_ => (Kd.R_ne HO_0.out BK221.out (by decide)) e_) hs_)); replace HB := Aside0.mk (hb); clear HO_0; (try clear hb); (try clear hkp); (try clear ho0)))
                    go_roundg kj17
                    case measure => have := HK1.out; have := HJ17.out; omega
                    case rel => exact ⟨(t225), (wrap64 (x24_1 + 1)), (by first | rfl | (simp; done) | (simp [*]; done)), H', ⟨by have := HK1.out; have := HJ17.out; omega⟩, ⟨ra_ HO227⟩, ⟨bel_⟩⟩
                  replace c32 := Bool.eq_false_iff.mpr c32
                  subst c32
                  have H1 : (if ((rd_T43 l1 x24_1).f1) = true then ((slices_Insert_api_Item_api_Item.f x0_1 t222 (([(⟨((rd_T43 l1 x24_1).f0), ((rd_T43 l1 x24_1).f2)⟩ : S54)] : List (S54)))).bind fun t231 => (item_Apply.l0 kj17 t231 l1 (l1.length : Int) (wrap64 (x24_1 + 1)))) else (item_Apply.l0 kj17 x0_1 l1 (l1.length : Int) (wrap64 (x24_1 + 1)))) = some (r1, r2) := by rw [if_neg (show ¬ (false = true) by decide)] at H; exact H
                  clear H
                  have H := H1
                  clear H1
                  by_cases c35 : ((rd_T43 l1 x24_1).f1) = true
                  · rw [if_pos c35] at H
                    have c35b0 : ((rd_T43 l1 x24_1).f1) = true := c35
                    clear c35
                    obtain ⟨y228, hy228⟩ : ∃ y_ : List (S54), y_ = (([(⟨((rd_T43 l1 x24_1).f0), ((rd_T43 l1 x24_1).f2)⟩ : S54)] : List (S54))) := ⟨_, rfl⟩
                    replace H : ((slices_Insert_api_Item_api_Item.f x0_1 t222 y228).bind fun t231 => (item_Apply.l0 kj17 t231 l1 (l1.length : Int) (wrap64 (x24_1 + 1)))) = some (r1, r2) := by first | (rw [hy228]; with_reducible exact H) | (have H2_ := (Option.bind_some _ _).symm.trans H; rw [hy228]; with_reducible exact H2_) | (have H2_ := (Option.bind_some _ _).symm.trans H; with_reducible exact H2_) | with_reducible exact H | (rw [hy228]; exact H) | exact H
                    have Ny228 := Aside0.mk hy228
                    clear hy228
                    replace H := Option.bind_eq_some_iff.mp H
                    obtain ⟨t231, A360, H⟩ := H
                    replace H : (item_Apply.l0 kj17 t231 l1 (l1.length : Int) (wrap64 (x24_1 + 1))) = some (r1, r2) := H
                    have A36 := Aside0.mk A360
                    clear A360
                    have H' := Aside0.mk H
                    clear H
                    obtain ⟨hcz37_0, hcz37_1, hcz37_2⟩ := cl3_ BK221
                    obtain ⟨hfz37_0, hfz37_1, hfz37_2⟩ := fz3_ BK221
                    go_wp2_with (first | ((with_reducible refine gate_dst (N := 64) rfl ?_); refine Kd.R_lit k54 _ 54 ?hg (N := 64) ?hd (xs := ([(⟨((rd_T43 l1 x24_1).f0), ((rd_T43 l1 x24_1).f2)⟩ : S54)] : List (S54))) (inner := [.string ((rd_T43 l1 x24_1).f0), .string ((rd_T43 l1 x24_1).f2)]) (ok := fun _ => True) (okp := fun _ => True) ?hr ?hp (fun _ hk => hk) trivial (Below.refl _ _) (Nat.le_refl _) (by simp) ?_; (case hd => rfl); (case hg => rfl); (case hr => first | (go_simp; done) | (go_simp; rfl)); (case hp => exact (Reps.c2 (show Kd.M k54 _ _ _ (⟨((rd_T43 l1 x24_1).f0), ((rd_T43 l1 x24_1).f2)⟩ : S54) [.string ((rd_T43 l1 x24_1).f0), .string ((rd_T43 l1 x24_1).f2)] from (k54_mkM _ _ _ (⟨((rd_T43 l1 x24_1).f0), ((rd_T43 l1 x24_1).f2)⟩ : S54) )) (Reps.none _ _))); intro v229 w38 ho39 hb hg_ hnew_; clear hg_ hnew_; (first | rw [← Ny228.out] at ho39 | (simp only [Int.reduceToNat] at ho39; rw [← Ny228.out] at ho39)); have HO230 := Aside0.mk (Kd.R_lower (Kd.R_new' ho39 (Kd.R_lt (ra_ HO_0))) (below_size bel_)); replace HO_0 := Aside0.mk (Kd.R_elder' (ra_ HO_0) (Kd.R_base ho39) hb); replace BK221 := kb_ BK221 hb; replace HB := hb_ hb; clear hb ho39; obtain ⟨Ao40, co40, eo40⟩ := Kd.R_slice HO230.out; subst eo40) | ((with_reducible refine gate_callee (f := 23) rfl ?_); refine gl_ (some 65) Tryz.func23 #[.slice Ao21 x0_1.length co21, .int .i64 t222, .slice Ao40 y228.length co40] ?_; (with_reducible refine (slices_Insert_api_Item_api_Item.calls (fun k_ => some k_ = (.slice Ao21 x0_1.length co21 : Value).ownBlock) (.slice Ao21 x0_1.length co21) x0_1 t222 _ _ y228 t231 w _ ?side1 ?side2 ?side3 ?side4 ?side5 A36.out).mono ?_); (case side1 => repeat (first | (with_reducible first | exact HB.out | apply below_alloc | apply pw_below_drewN | apply below_drew1 | refine below_set ?_ GE221.out) | exact HB.out)); (case side2 => exact Kd.R_tight rfl HO_0.out); (case side3 => exact Kd.C_kept_own (HO230.out) (fun k_ hk_ hs_ => (hk_.2) hs_)); (case side4 => exact (Kd.R_reads' HO230.out).2.1); (case side5 => exact ⟨_, _, HO230.out⟩); rintro e w41 ⟨v232, rfl, ho0, hb, hkp⟩; refine ⟨_, rfl, ?_⟩; have HO233 := Aside0.mk (Kd.R_mono (ok' := fun k_ => some k_ ≠ (.slice Ao40 y228.length co40 : Value).ownBlock) ho0 (fun k_ hk_ => Or.elim hk_ (fun hs_ => fun e_ => (((HO230.out).1 k_ e_.symm).2) hs_) (fun hn_ => (Kd.fresh' (Kd.R_lt (ra_ HO230)) k_ hn_)))); replace BK221 := Aside0.mk (blk_kept (bk_ BK221) hkp (fun hs_ => (fun e_ => (Kd.R_ne HO_0.out BK221.out (by decide)) e_) hs_)); replace HO230 := Aside0.mk (Kd.R_mono (ok' := fun k_ => some k_ ≠ (v232 : Value).ownBlock) (Kd.R_keptB (HO230.out) hkp (fun k_ hk_ hs_ => (hk_.2) hs_)) (fun k_ hk_ => fun e_ => Or.elim (ho0.1 k_ e_.symm) (fun hs_ => hk_.2.1 hs_) (fun hn_ => Nat.not_le.2 hk_.2.2 hn_))); replace HB := Aside0.mk (hb); clear HO_0; (try clear hb); (try clear hkp); (try clear ho0)))
                    go_roundg kj17
                    case measure => have := HK1.out; have := HJ17.out; omega
                    case rel => exact ⟨(t231), (wrap64 (x24_1 + 1)), (by first | rfl | (simp; done) | (simp [*]; done)), H', ⟨by have := HK1.out; have := HJ17.out; omega⟩, ⟨by (with_reducible repeat (first | apply Kd.R_alloc | apply Kd.R_drewN | apply Kd.R_drew)); exact Kd.R_mono HO233.out (fun _ hk => trivial)⟩, ⟨bel_⟩⟩
                  rw [if_neg c35] at H
                  have c35b0 : ((rd_T43 l1 x24_1).f1) = false := by simpa using c35
                  clear c35
                  have H' := Aside0.mk H
                  clear H
                  obtain ⟨hcz42_0, hcz42_1, hcz42_2⟩ := cl3_ BK221
                  obtain ⟨hfz42_0, hfz42_1, hfz42_2⟩ := fz3_ BK221
                  go_wp2
                  go_roundg kj17
                  case measure => have := HK1.out; have := HJ17.out; omega
                  case rel => exact ⟨(x0_1), (wrap64 (x24_1 + 1)), (by first | rfl | (simp; done) | (simp [*]; done)), H', ⟨by have := HK1.out; have := HJ17.out; omega⟩, ⟨ra_ HO_0⟩, ⟨bel_⟩⟩
            rw [if_neg c16] at H
            exact absurd H (by simp)
          rw [if_neg c15] at H
          exact absurd H (by simp)
        rw [if_neg c14] at H
        have c14b0 : decide (x24_1 < (l1.length : Int)) = false := decide_eq_false c14
        clear c14
        simp only [Option.some.injEq, Prod.mk.injEq] at H
        obtain ⟨rfl, rfl⟩ := H
        go_wp2
        go_ret2
        exact ⟨_, by first | rfl | (simp [errW_none, errW_some] <;> rfl) | (simp [*, errW_none, errW_some] <;> rfl), by (with_reducible repeat (first | apply Kd.R_alloc | apply Kd.R_drewN | apply Kd.R_drew)); exact HO_0.out, bel_⟩
  rw [if_neg c6] at H
  have c6b0 : (t216 == 0) = false := beq_eq_false_iff_ne.mpr c6
  have c6b1 : (t216 != 0) = true := bne_iff_ne.mpr c6
  simp only [Option.some.injEq, Prod.mk.injEq] at H
  obtain ⟨rfl, rfl⟩ := H
  go_enter Tryz.func10, Tryz.ntmps10
  go_wp2_with (first | ((with_reducible refine gate_callee (f := 18) rfl ?_); refine gl_ (some 12) Tryz.func18 #[.slice A0 l0.length c0] ?_; (with_reducible refine (item_Check.calls k _ _ l0 t211 _ ?side1 ?side2 A3.out).mono ?_); (case side1 => repeat (first | exact HR0.out | (with_reducible refine Kd.C_alloc ?_ _) | (with_reducible refine Kd.C_drewN ?_ _) | (with_reducible refine Kd.C_drew ?_))); (case side2 => exact HC0.out); rintro e w43 ⟨rfl, hb⟩; refine ⟨_, rfl, ?_⟩; replace HB := hb_ hb; (try clear hb); (try clear hb2); (try clear hk); (try clear hi)) | ((with_reducible refine gate_callee (f := 19) rfl ?_); refine gl_ (some 14) Tryz.func19 #[.slice A1 l1.length c1] ?_; (with_reducible refine (item_CheckChanges.calls k _ _ l1 t212 _ ?side1 ?side2 A4.out).mono ?_); (case side1 => exact cb_ HR1); (case side2 => exact HC1.out); rintro e w44 ⟨rfl, hb⟩; refine ⟨_, rfl, ?_⟩; replace HB := hb_ hb; (try clear hb); (try clear hb2); (try clear hk); (try clear hi)) | ((with_reducible refine gate_dst (N := 15) rfl ?_); refine Kd.R_lit (Kd.int .i64) _ 26 ?hg (N := 15) ?hd (xs := ([t211, t212] : List Int)) (inner := [.int .i64 t211, .int .i64 t212]) (ok := fun _ => True) (okp := fun _ => True) ?hr ?hp (fun _ hk => hk) trivial (Below.refl _ _) (Nat.le_refl _) (by simp) ?_; (case hd => rfl); (case hg => rfl); (case hr => first | (go_simp; done) | (go_simp; rfl)); (case hp => exact (Reps.one (show Kd.M (Kd.int .i64) _ _ _ t211 [.int .i64 t211] from rfl) (Reps.one (show Kd.M (Kd.int .i64) _ _ _ t212 [.int .i64 t212] from rfl) (Reps.none _ _)))); intro v214 w45 ho46 hb hg_ hnew_; clear hg_ hnew_; (first | rw [← Ny213.out] at ho46 | (simp only [Int.reduceToNat] at ho46; rw [← Ny213.out] at ho46)); have HO215 := rl_ ho46; replace HB := hb_ hb; clear hb ho46; obtain ⟨Ao47, co47, eo47⟩ := Kd.R_slice HO215.out; subst eo47) | ((with_reducible refine gate_callee (f := 17) rfl ?_); refine gl_ (some 16) Tryz.func17 #[.slice Ao47 y213.length co47] ?_; (with_reducible refine (cmp_Or_api_Errno.calls k _ _ y213 t216 _ ?side1 ?side2 A5.out).mono ?_); (case side1 => exact cr_ HO215); (case side2 => exact (Kd.R_reads' HO215.out).2.1); rintro e w' ⟨rfl, ⟨nd, rfl⟩⟩; refine ⟨_, rfl, ?_⟩))
  go_ret2
  exact ⟨_, by first | rfl | (simp [errW_none, errW_some] <;> rfl) | (simp [*, errW_none, errW_some] <;> rfl), by first | exact Kd.R_nil _ _ _ _ _ | exact Kd.N_nil _ _ _ _ _ | exact Kd.V_nil _ _ _ _ _ | exact Kd.Q_nil _ _ _ _ _ | exact Kd.S_nil _ _ _ _ _, bel_⟩

end Go.Proofs.YtnngbhdofgodiaaGreatDoor.Z
end

section
/- What Apply and Diff come to. -/
namespace Go.Proofs.YtnngbhdofgodiaaGreatDoor.Z
open Go.RowKit Go.Proofs.YtnngbhdofgodiaaGreatDoorW.PrintWords Go.Proofs.YtnngbhdofgodiaaGreatDoorW.PrintLast
set_option linter.unusedVariables false
set_option linter.unusedSimpArgs false
theorem itCheckC_l0 (l : List Ch) (hl : l.length ≤ 4398046511104) : ∀ d i : Nat, l.length = i + d → Ev (fun k => item_CheckChanges.l0 k l (l.length : Int) (i : Int)) (ckS ((l.drop i).all okc)) := by
  intro d
  induction d with
  | zero =>
    intro i hi
    refine Ev.step (fun k => by rw [item_CheckChanges.l0]) (Ev.ifn (by omega) (Ev.const ?_))
    rw [List.drop_of_length_le (by omega)]; rfl
  | succ d ih =>
    intro i hi
    have hlt : i < l.length := by omega
    have ih := ih (i + 1) (by omega)
    rw [List.drop_eq_getElem_cons hlt, List.all_cons]
    refine Ev.step (fun k => by rw [item_CheckChanges.l0]) (Ev.ifp (by omega) (Ev.ifp (by omega) (Ev.ifp (by omega) (Ev.bindc (by rw [rdc_get l i hlt]; exact rightc_f _) ?_))))
    rw [rdc_get l i hlt, w64 (by omega) (by omega)]
    unfold okc at ih ⊢
    cases hr : (okK (l[i]).f0 && decide ((l[i]).f2.size ≤ 160)) with
    | false => exact Ev.ifn (by simp) (Ev.const rfl)
    | true =>
      refine Ev.ifp rfl (Ev.ite (fun h => Ev.val ih ?_) (fun h => Ev.ite (fun h2 => Ev.val ih ?_) (fun h2 => Ev.const ?_)))
      · simp [h]
      · simp [h2]
      · simp [h, h2, ckS]
theorem itCheckC (l : List Ch) (hl : l.length ≤ 4398046511104) : Ev (fun k => item_CheckChanges.f k l) (ckS (okC l)) := itCheckC_l0 l hl l.length 0 (by omega)
theorem or_f (x y : Int) : Ev (fun k => cmp_Or_api_Errno.f k [x, y]) (if x = 0 then y else x) := by
  unfold cmp_Or_api_Errno.f
  have r0 : rd [x, y] 0 = x := rfl
  have r1 : rd [x, y] 1 = y := rfl
  have e1 : wrap64 (0 + 1) = 1 := (w64 (by omega) (by omega)).trans rfl
  have e2 : wrap64 (1 + 1) = 2 := (w64 (by omega) (by omega)).trans rfl
  refine Ev.step (fun k => by rw [cmp_Or_api_Errno.l0]) (Ev.ifp (by simp) (Ev.ifp (by omega) (Ev.ifp (by simp) ?_)))
  rw [r0, e1]
  refine Ev.ite (fun h => ?_) (fun h => Ev.const (by rw [if_neg h]))
  refine Ev.step (fun k => by rw [cmp_Or_api_Errno.l0]) (Ev.ifp (by simp) (Ev.ifp (by omega) (Ev.ifp (by simp) ?_)))
  rw [r1, e2, if_pos h]
  refine Ev.ite (fun h2 => ?_) (fun h2 => Ev.const rfl)
  refine Ev.step (fun k => by rw [cmp_Or_api_Errno.l0]) (Ev.ifn (by simp) (Ev.const ?_))
  rw [h2]
theorem or_ck (a b : Bool) : Ev (fun k => cmp_Or_api_Errno.f k [ckS a, ckS b]) (ckS (a && b)) := Ev.val (or_f _ _) (by cases a <;> cases b <;> rfl)
-- Apply
def aplS (l : List It) (cs : List Ch) : List It × Int := if (okL l && okC cs) = true then (apl l cs, 0) else ([], 4)
theorem lo_take (l : List It) (k : List UInt8) : l.take (lo l k).length = lo l k := by
  have := congrArg (List.take (lo l k).length) (lo_up l k)
  rw [List.take_left] at this
  exact this.symm
theorem hi_drop {l : List It} (ha : Asc l) {k : List UInt8} (hf : fnd l k = true) : l.drop ((lo l k).length + 1) = hi l k := by
  obtain ⟨h, _, hp⟩ := at_fnd ha hf
  have := congrArg (List.drop ((lo l k).length + 1)) hp
  rw [List.drop_left' (by simp)] at this
  exact this
theorem hi_drop' {l : List It} (ha : Asc l) {k : List UInt8} (hf : fnd l k = false) : l.drop (lo l k).length = hi l k := by
  have := congrArg (List.drop (lo l k).length) (not_fnd ha hf)
  rw [List.drop_left] at this
  exact this
theorem put_set {l : List It} (ha : Asc l) {c : Ch} (hf : fnd l (ck c) = true) (hh : c.f1 = true) (h : (lo l (ck c)).length < l.length) : l.set (lo l (ck c)).length ⟨(l[(lo l (ck c)).length]).f0, c.f2⟩ = put l c := by
  obtain ⟨_, hk, hp⟩ := at_fnd ha hf
  rw [List.set_eq_take_append_cons_drop, if_pos h, lo_take, hi_drop ha hf]
  have e : (l[(lo l (ck c)).length]).f0 = c.f0 := bytes_inj hk
  rw [e]
  unfold put new_
  rw [if_pos hh, List.append_assoc]; rfl
theorem put_del {l : List It} (ha : Asc l) {c : Ch} (hf : fnd l (ck c) = true) (hh : c.f1 = false) : l.take (lo l (ck c)).length ++ l.drop ((lo l (ck c)).length + 1) = put l c := by
  rw [lo_take, hi_drop ha hf]
  unfold put new_
  rw [hh]; simp
theorem put_ins {l : List It} (ha : Asc l) {c : Ch} (hf : fnd l (ck c) = false) (hh : c.f1 = true) : l.take (lo l (ck c)).length ++ [⟨c.f0, c.f2⟩] ++ l.drop (lo l (ck c)).length = put l c := by
  rw [lo_take, hi_drop' ha hf]
  unfold put new_
  rw [if_pos hh]
theorem put_non {l : List It} (ha : Asc l) {c : Ch} (hf : fnd l (ck c) = false) (hh : c.f1 = false) : l = put l c := by
  unfold put new_
  rw [hh]
  simpa using not_fnd ha hf
theorem apl_l0 (cs : List Ch) (hcs : cs.length ≤ 4398046511000) : ∀ d i : Nat, cs.length = i + d → ∀ l : List It, okL l = true → okC (cs.drop i) = true → l.length + d ≤ 4398046511000 →
    Ev (fun k => item_Apply.l0 k l cs (cs.length : Int) (i : Int)) (apl l (cs.drop i), 0) := by
  intro d
  induction d with
  | zero =>
    intro i hi l ho hoc hb
    refine Ev.step (fun k => by rw [item_Apply.l0]) (Ev.ifn (by omega) (Ev.const ?_))
    rw [List.drop_of_length_le (by omega)]; rfl
  | succ d ih =>
    intro i hi l ho hoc hb
    have hlt : i < cs.length := by omega
    have ha := ((okL_iff l).1 ho).2
    obtain ⟨c, hc⟩ : ∃ c, c = cs[i] := ⟨_, rfl⟩
    rw [List.drop_eq_getElem_cons hlt, ← hc] at hoc ⊢
    unfold okC at hoc
    rw [List.all_cons, Bool.and_eq_true] at hoc
    have hpl := put_len l c
    have hpo := put_ok ho hoc.1
    have hlp := lo_le l (ck c)
    -- what is done here, then the rest
    have go : ∀ r : List It, r = put l c → Ev (fun k => item_Apply.l0 k r cs (cs.length : Int) (wrap64 ((i : Int) + 1))) (apl l (c :: cs.drop (i + 1)), 0) := by
      rintro r rfl
      rw [w64 (by omega) (by omega)]
      exact ih (i + 1) (by omega) (put l c) hpo hoc.2 (by omega)
    refine Ev.step (fun k => by rw [item_Apply.l0]) (Ev.ifp (by omega) (Ev.ifp (by omega) (Ev.ifp (by omega) ?_)))
    rw [rdc_get cs i hlt, ← hc]
    have hpf : Ev (fun k => item_place.f k l c.f0) (((lo l (ck c)).length : Int), fnd l (ck c)) := place_f ha (by omega) c.f0
    refine Ev.bind hpf ?_
    clear hpf
    have hw : wrap64 (((lo l (ck c)).length : Int) + 1) = ((lo l (ck c)).length : Int) + 1 := w64 (by omega) (by omega)
    cases hf : fnd l (ck c) with
    | true =>
      refine Ev.ifp rfl (Ev.step (fun k => by rw [item_Apply.j1]) ?_)
      obtain ⟨hp, _, _⟩ := at_fnd ha hf
      cases hh : c.f1 with
      | true =>
        refine Ev.ifp rfl (Ev.ifp (by simp only; omega) (Ev.ifp (by simp only; omega) (go _ ?_)))
        simp only
        rw [rd_get l _ hp, Int.toNat_natCast]
        exact put_set ha hf hh hp
      | false =>
        refine Ev.ifn (by simp) (Ev.ifp rfl (Ev.bindc ?_ (go _ (put_del ha hf hh))))
        simp only
        unfold slices_Delete_api_Item_api_Item.f
        rw [hw, if_pos ⟨by omega, by omega, rfl⟩, Int.toNat_natCast]
    | false =>
      refine Ev.ifn (by simp) (Ev.step (fun k => by rw [item_Apply.j1]) ?_)
      refine Ev.ifn (by simp) (Ev.ifn (by simp) ?_)
      cases hh : c.f1 with
      | true =>
        refine Ev.ifp rfl (Ev.bindc ?_ (go _ (put_ins ha hf hh)))
        simp only
        unfold slices_Insert_api_Item_api_Item.f
        rw [if_pos ⟨by omega, by omega, rfl, by omega⟩, Int.toNat_natCast]
      | false => exact Ev.ifn (by simp) (go _ (put_non ha hf hh))
theorem itApply (l : List It) (cs : List Ch) (hb : l.length + cs.length ≤ 4398046511000) : Ev (fun k => item_Apply.f k l cs) (aplS l cs) := by
  unfold item_Apply.f
  refine Ev.bind (itCheck l (by omega)) (Ev.bind (itCheckC cs (by omega)) (Ev.bind (or_ck _ _) ?_))
  unfold aplS
  by_cases h : (okL l && okC cs) = true
  · rw [h, if_pos rfl]
    rw [Bool.and_eq_true] at h
    refine Ev.ifp rfl (Ev.bindc (show slices_Clone_api_Item_api_Item.f l = some l by unfold slices_Clone_api_Item_api_Item.f; rw [if_pos (by omega)]) ?_)
    exact apl_l0 cs (by omega) cs.length 0 (by omega) l h.1 (by simpa using h.2) hb
  · have h' : (okL l && okC cs) = false := by simpa using h
    rw [h']
    exact Ev.ifn (by decide) (Ev.const rfl)
-- Diff
def diffS (a b : List It) : List Ch × Int := if (okL a && okL b) = true then (diffL a b, 0) else ([], 4)
end Go.Proofs.YtnngbhdofgodiaaGreatDoor.Z
end

section
/- Bytes as a text; names. -/
namespace Go.Proofs.YtnngbhdofgodiaaGreatDoor.PM
/-- Bytes as a text. -/
def ba (l : List UInt8) : ByteArray := ⟨l.toArray⟩
theorem ba_data (l : List UInt8) : (ba l).data.toList = l := by simp [ba]
theorem ba_toList (l : List UInt8) : (ba l).toList = l := by rw [ByteArray.toList_eq]; exact ba_data l
theorem ba_size (l : List UInt8) : (ba l).size = l.length := by simp [ba, ByteArray.size]
theorem data_ba (s : ByteArray) : ba s.data.toList = s := by cases s; simp [ba]
theorem ba_inj {a b : List UInt8} (h : ba a = ba b) : a = b := by have := congrArg (fun s => s.data.toList) h; simpa [ba_data] using this
theorem ba_app (a b : List UInt8) : ba a ++ ba b = ba (a ++ b) := by
  have h : (ba a ++ ba b).data.toList = (ba (a ++ b)).data.toList := by rw [Go.Joins.data_append, ba_data, ba_data, ba_data]
  rw [← data_ba (ba a ++ ba b), h, data_ba]
theorem map_ba_inj {a b : List (List UInt8)} (h : a.map ba = b.map ba) : a = b := by
  have h2 := congrArg (List.map (fun s : ByteArray => s.data.toList)) h
  simpa [List.map_map, Function.comp_def, ba_data] using h2
theorem map_data (l : List ByteArray) : (l.map (fun s => s.data.toList)).map ba = l := by
  rw [List.map_map]; simp [Function.comp_def, data_ba]

/-- A name. -/
def nameL (l : List UInt8) : Bool := decide (l ≠ [] ∧ l.length ≤ 24 ∧ 47 ∉ l ∧ 0 ∉ l ∧ l ≠ [46] ∧ l ≠ [46, 46])
theorem nameL_iff {l : List UInt8} : nameL l = true ↔ (l ≠ [] ∧ l.length ≤ 24 ∧ 47 ∉ l ∧ 0 ∉ l ∧ l ≠ [46] ∧ l ≠ [46, 46]) := by simp [nameL]

end Go.Proofs.YtnngbhdofgodiaaGreatDoor.PM
end

section
/- Numbers as bytes; inodes and keys as bytes: over lists (no program in sight). -/
namespace Go.Proofs.YtnngbhdofgodiaaGreatDoor.PM
open Go
/-- The w bytes of a number, the greatest first. -/
def be : Nat → Nat → List UInt8
  | 0, _ => []
  | w + 1, n => be w (n / 256) ++ [UInt8.ofNat (n % 256)]
theorem be_len : ∀ w n, (be w n).length = w
  | 0, _ => rfl
  | w + 1, n => by rw [be, List.length_append, be_len w]; rfl
theorem be_cons : ∀ w n, be (w + 1) n = UInt8.ofNat (n / 256 ^ w % 256) :: be w n
  | 0, n => by simp [be]
  | w + 1, n => by
    have h := be_cons w (n / 256)
    rw [be, h, be, List.cons_append, Nat.div_div_eq_div_mul, ← Nat.pow_succ']
def num (l : List UInt8) : Nat := l.foldl (fun a b => a * 256 + b.toNat) 0
theorem num_snoc (l : List UInt8) (b : UInt8) : num (l ++ [b]) = num l * 256 + b.toNat := by simp [num]
theorem num_nil : num [] = 0 := rfl
theorem ofNat_toNat (n : Nat) : (UInt8.ofNat (n % 256)).toNat = n % 256 := by simp
theorem num_be : ∀ w n, n < 256 ^ w → num (be w n) = n
  | 0, n, h => by
    have : n = 0 := by simpa using h
    subst this
    rfl
  | w + 1, n, h => by
    rw [be, num_snoc, num_be w (n / 256) (by rw [Nat.pow_succ] at h; omega), ofNat_toNat]
    omega
theorem num_lt : ∀ (k : Nat) (l : List UInt8), l.length = k → num l < 256 ^ k
  | 0, l, h => by rw [List.length_eq_zero_iff.1 h]; exact Nat.one_pos
  | k + 1, l, h => by
    obtain rfl | ⟨l', b, rfl⟩ := List.eq_nil_or_concat l
    · cases h
    · rw [List.concat_eq_append] at h ⊢
      rw [num_snoc, Nat.pow_succ]
      have h1 := num_lt k l' (by simpa using h)
      have h2 := b.toNat_lt
      omega
theorem be_num : ∀ (k : Nat) (l : List UInt8), l.length = k → be k (num l) = l
  | 0, l, h => by rw [List.length_eq_zero_iff.1 h]; rfl
  | k + 1, l, h => by
    obtain rfl | ⟨l', b, rfl⟩ := List.eq_nil_or_concat l
    · cases h
    · rw [List.concat_eq_append] at h ⊢
      have h2 := b.toNat_lt
      rw [num_snoc, be, show (num l' * 256 + b.toNat) / 256 = num l' by omega, show (num l' * 256 + b.toNat) % 256 = b.toNat by omega, be_num k l' (by simpa using h)]
      simp
theorem be_inj {w n m : Nat} (hn : n < 256 ^ w) (hm : m < 256 ^ w) (h : be w n = be w m) : n = m := by
  rw [← num_be w n hn, ← num_be w m hm, h]
theorem bl_snoc : ∀ (a b : List UInt8) (x y : UInt8), a.length = b.length → Op.bytesLess (a ++ [x]) (b ++ [y]) = (Op.bytesLess a b || (a == b && decide (x < y)))
  | [], [], x, y, _ => by simp [Op.bytesLess]
  | c :: a, d :: b, x, y, h => by
    have e : (c :: a == d :: b) = (c == d && a == b) := List.cons_beq_cons
    rw [List.cons_append, List.cons_append, Op.bytesLess, Op.bytesLess, bl_snoc a b x y (by simpa using h), e]
    cases decide (c < d) <;> cases c == d <;> cases Op.bytesLess a b <;> cases a == b <;> cases decide (x < y) <;> rfl
theorem bl_pre : ∀ (a x y : List UInt8), Op.bytesLess (a ++ x) (a ++ y) = Op.bytesLess x y
  | [], _, _ => rfl
  | c :: a, x, y => by
    rw [List.cons_append, List.cons_append, Op.bytesLess, bl_pre a x y]
    simp [UInt8.lt_irrefl]
/-- Bytes stand as their numbers do. -/
theorem be_less : ∀ (w n m : Nat), n < 256 ^ w → m < 256 ^ w → Op.bytesLess (be w n) (be w m) = decide (n < m)
  | 0, n, m, hn, hm => by
    have : n = 0 := by simpa using hn
    have : m = 0 := by simpa using hm
    subst_vars
    rfl
  | w + 1, n, m, hn, hm => by
    rw [Nat.pow_succ] at hn hm
    rw [be, be, bl_snoc _ _ _ _ (by rw [be_len, be_len]), be_less w _ _ (by omega) (by omega)]
    have e : decide (UInt8.ofNat (n % 256) < UInt8.ofNat (m % 256)) = decide (n % 256 < m % 256) := by
      rw [Bool.eq_iff_iff]
      simp only [decide_eq_true_eq, UInt8.lt_iff_toNat_lt, ofNat_toNat]
    rw [e]
    by_cases h : n / 256 = m / 256
    · rw [h]
      simp
      omega
    · have h2 : (be w (n / 256) == be w (m / 256)) = false := by
        simp only [beq_eq_false_iff_ne, ne_eq]
        exact fun he => h (be_inj (by omega) (by omega) he)
      rw [h2]
      simp
      omega
theorem tk {n : Nat} {a r : List UInt8} (h : a.length = n) : (a ++ r).take n = a := by subst h; simp
theorem dr {n : Nat} {a r : List UInt8} (h : a.length = n) : (a ++ r).drop n = r := by subst h; simp

/-! ### Inodes -/
def okN (k l s : Int) (t : List UInt8) : Bool :=
  decide (k = 1 ∧ l = 1 ∧ s = 0 ∧ t = [] ∨ k = 2 ∧ 0 < l ∧ s ≤ 65536 ∧ t = [] ∨ k = 3 ∧ 0 < l ∧ t ≠ [] ∧ t.length ≤ 64 ∧ 0 ∉ t ∧ s = t.length)
def enc (k m l s : Int) (t : List UInt8) : List UInt8 := be 1 k.toNat ++ (be 2 m.toNat ++ (be 4 l.toNat ++ (be 4 s.toNat ++ (be 2 t.length ++ t))))
def encS (k m l s : Int) (t : List UInt8) : List UInt8 × Int := if okN k l s t = true then (enc k m l s t, 0) else ([], 4)
abbrev Ino := Int × Int × Int × Int × List UInt8 × Int
def d3 (l : List UInt8) : List UInt8 := (l.drop 1).drop 2
def d7 (l : List UInt8) : List UInt8 := (d3 l).drop 4
def d11 (l : List UInt8) : List UInt8 := (d7 l).drop 4
def d13 (l : List UInt8) : List UInt8 := (d11 l).drop 2
def f1 (l : List UInt8) : Int := num (l.take 1)
def f2 (l : List UInt8) : Int := num ((l.drop 1).take 2)
def f3 (l : List UInt8) : Int := num ((d3 l).take 4)
def f4 (l : List UInt8) : Int := num ((d7 l).take 4)
def whole (l : List UInt8) : Prop := 13 ≤ l.length ∧ l.length = 13 + num ((d11 l).take 2)
instance (l : List UInt8) : Decidable (whole l) := by unfold whole; infer_instance
def decS (l : List UInt8) : Ino := if whole l ∧ okN (f1 l) (f3 l) (f4 l) (d13 l) = true then (f1 l, f2 l, f3 l, f4 l, d13 l, 0) else (0, 0, 0, 0, [], 4)
theorem p1 : 256 ^ 1 = 256 := rfl
theorem p2 : 256 ^ 2 = 65536 := rfl
theorem p4 : 256 ^ 4 = 4294967296 := rfl
theorem dec_enc {k m l s : Int} {t : List UInt8} (h : okN k l s t = true) (hk : 0 ≤ k ∧ k < 256) (hm : 0 ≤ m ∧ m < 65536) (hl : 0 ≤ l ∧ l < 4294967296) (hs : 0 ≤ s ∧ s < 4294967296) :
    decS (enc k m l s t) = (k, m, l, s, t, 0) := by
  have ht : t.length ≤ 64 := by
    unfold okN at h
    rcases of_decide_eq_true h with h | h | h
    · rw [h.2.2.2]; decide
    · rw [h.2.2.2]; decide
    · exact h.2.2.2.1
  have a1 : (enc k m l s t).drop 1 = be 2 m.toNat ++ (be 4 l.toNat ++ (be 4 s.toNat ++ (be 2 t.length ++ t))) := dr (be_len _ _)
  have a3 : d3 (enc k m l s t) = be 4 l.toNat ++ (be 4 s.toNat ++ (be 2 t.length ++ t)) := by unfold d3; rw [a1]; exact dr (be_len _ _)
  have a7 : d7 (enc k m l s t) = be 4 s.toNat ++ (be 2 t.length ++ t) := by unfold d7; rw [a3]; exact dr (be_len _ _)
  have a11 : d11 (enc k m l s t) = be 2 t.length ++ t := by unfold d11; rw [a7]; exact dr (be_len _ _)
  have a13 : d13 (enc k m l s t) = t := by unfold d13; rw [a11]; exact dr (be_len _ _)
  have e1 : f1 (enc k m l s t) = k := by
    unfold f1 enc; rw [tk (be_len _ _), num_be 1 _ (by rw [p1]; omega)]; omega
  have e2 : f2 (enc k m l s t) = m := by
    unfold f2; rw [a1, tk (be_len _ _), num_be 2 _ (by rw [p2]; omega)]; omega
  have e3 : f3 (enc k m l s t) = l := by
    unfold f3; rw [a3, tk (be_len _ _), num_be 4 _ (by rw [p4]; omega)]; omega
  have e4 : f4 (enc k m l s t) = s := by
    unfold f4; rw [a7, tk (be_len _ _), num_be 4 _ (by rw [p4]; omega)]; omega
  have e5 : whole (enc k m l s t) := by
    have hlen : (enc k m l s t).length = 13 + t.length := by unfold enc; simp only [List.length_append, be_len]; omega
    refine ⟨by omega, ?_⟩
    rw [a11, tk (be_len _ _), num_be 2 _ (by rw [p2]; omega), hlen]
  unfold decS
  rw [e1, e2, e3, e4, a13, if_pos ⟨e5, h⟩]
theorem enc_dec {l : List UInt8} (h : whole l) : enc (f1 l) (f2 l) (f3 l) (f4 l) (d13 l) = l := by
  obtain ⟨h1, h2⟩ := h
  have l1 : (l.drop 1).length = l.length - 1 := by simp
  have l3 : (d3 l).length = l.length - 3 := by unfold d3; simp only [List.length_drop]; omega
  have l7 : (d7 l).length = l.length - 7 := by unfold d7; rw [List.length_drop, l3]; omega
  have l11 : (d11 l).length = l.length - 11 := by unfold d11; rw [List.length_drop, l7]; omega
  have l13 : (d13 l).length = l.length - 13 := by unfold d13; rw [List.length_drop, l11]; omega
  have lt : (d13 l).length = num ((d11 l).take 2) := by omega
  unfold enc f1 f2 f3 f4
  rw [lt]
  simp only [Int.toNat_natCast]
  rw [be_num 1 _ (by rw [List.length_take]; omega), be_num 2 _ (by rw [List.length_take]; omega), be_num 4 _ (by rw [List.length_take]; omega), be_num 4 _ (by rw [List.length_take]; omega), be_num 2 _ (by rw [List.length_take]; omega)]
  unfold d13
  rw [List.take_append_drop]
  conv => lhs; rw [show d11 l = (d7 l).drop 4 from rfl, List.take_append_drop]
  conv => lhs; rw [show d7 l = (d3 l).drop 4 from rfl, List.take_append_drop]
  conv => lhs; rw [show d3 l = (l.drop 1).drop 2 from rfl, List.take_append_drop]
  rw [List.take_append_drop]
theorem f_range (l : List UInt8) (h : whole l) : (0 ≤ f1 l ∧ f1 l < 256) ∧ (0 ≤ f2 l ∧ f2 l < 65536) ∧ (0 ≤ f3 l ∧ f3 l < 4294967296) ∧ (0 ≤ f4 l ∧ f4 l < 4294967296) := by
  obtain ⟨h1, h2⟩ := h
  have l3 : (d3 l).length = l.length - 3 := by unfold d3; simp only [List.length_drop]; omega
  have l7 : (d7 l).length = l.length - 7 := by unfold d7; rw [List.length_drop, l3]; omega
  have a1 := num_lt 1 (l.take 1) (by rw [List.length_take]; omega)
  have a2 := num_lt 2 ((l.drop 1).take 2) (by rw [List.length_take, List.length_drop]; omega)
  have a3 := num_lt 4 ((d3 l).take 4) (by rw [List.length_take]; omega)
  have a4 := num_lt 4 ((d7 l).take 4) (by rw [List.length_take]; omega)
  rw [p1] at a1
  rw [p2] at a2
  rw [p4] at a3 a4
  unfold f1 f2 f3 f4
  omega

/-! ### Keys -/
def lett (k : Int) : List UInt8 := if k = 1 then [105] else if k = 2 then [100] else if k = 3 then [99] else if k = 4 then [120] else []
def prefL (k i : Int) : List UInt8 := if lett k = [] then [] else lett k ++ be 4 i.toNat
def rightK (k i : Int) (nm : List UInt8) (c : Int) : Bool :=
  decide (0 < i ∧ (k = 1 ∧ nm = [] ∧ c = 0 ∨ (k = 2 ∨ k = 4) ∧ nameL nm = true ∧ c = 0 ∨ k = 3 ∧ nm = [] ∧ c < 512))
def keyL (k i : Int) (nm : List UInt8) (c : Int) : List UInt8 := prefL k i ++ (if k = 3 then be 4 c.toNat else nm)
def keyS (k i : Int) (nm : List UInt8) (c : Int) : List UInt8 × Int := if rightK k i nm c = true then (keyL k i nm c, 0) else ([], 4)
def kindOf (b : UInt8) : Int := if b = 105 then 1 else if b = 100 then 2 else if b = 99 then 3 else if b = 120 then 4 else 0
abbrev KeyT := Int × Int × List UInt8 × Int × Int
def g1 (l : List UInt8) : Int := kindOf (l.headD 0)
def g2 (l : List UInt8) : Int := num ((l.drop 1).take 4)
def r5 (l : List UInt8) : List UInt8 := (l.drop 1).drop 4
def parsS (l : List UInt8) : KeyT :=
  if l.length < 5 then (0, 0, [], 0, 4)
  else if g1 l = 3 then if (r5 l).length = 4 ∧ rightK 3 (g2 l) [] (num (r5 l)) = true then (3, g2 l, [], num (r5 l), 0) else (0, 0, [], 0, 4)
  else if rightK (g1 l) (g2 l) (r5 l) 0 = true then (g1 l, g2 l, r5 l, 0, 0) else (0, 0, [], 0, 4)
theorem lett_one {k : Int} (h : lett k ≠ []) : ∃ b, lett k = [b] ∧ kindOf b = k := by
  unfold lett at *
  by_cases h1 : k = 1
  · subst h1; exact ⟨105, rfl, rfl⟩
  · by_cases h2 : k = 2
    · subst h2; exact ⟨100, rfl, rfl⟩
    · by_cases h3 : k = 3
      · subst h3; exact ⟨99, rfl, rfl⟩
      · by_cases h4 : k = 4
        · subst h4; exact ⟨120, rfl, rfl⟩
        · rw [if_neg h1, if_neg h2, if_neg h3, if_neg h4] at h
          exact absurd rfl h
theorem lett_ne {k i : Int} {nm : List UInt8} {c : Int} (h : rightK k i nm c = true) : lett k ≠ [] := by
  unfold rightK at h
  have h := (of_decide_eq_true h).2
  unfold lett
  rcases h with h | h | h
  · rw [if_pos h.1]; simp
  · rcases h.1 with h | h <;> subst h <;> decide
  · rw [h.1]; decide
theorem prefL_len {k i : Int} (h : lett k ≠ []) : (prefL k i).length = 5 := by
  obtain ⟨b, hb, _⟩ := lett_one h
  unfold prefL
  rw [if_neg h, hb, List.length_append, be_len]
  rfl
theorem key_parts {k i : Int} {nm : List UInt8} {c : Int} (h : lett k ≠ []) (hi : 0 ≤ i ∧ i < 4294967296) :
    g1 (keyL k i nm c) = k ∧ g2 (keyL k i nm c) = i ∧ r5 (keyL k i nm c) = (if k = 3 then be 4 c.toNat else nm) ∧ ¬ (keyL k i nm c).length < 5 := by
  obtain ⟨b, hb, hk⟩ := lett_one h
  have e : keyL k i nm c = b :: (be 4 i.toNat ++ (if k = 3 then be 4 c.toNat else nm)) := by
    unfold keyL prefL
    rw [if_neg h, hb]
    rfl
  rw [e]
  refine ⟨hk, ?_, ?_, ?_⟩
  · unfold g2
    rw [List.drop_one, List.tail_cons, tk (be_len _ _), num_be 4 _ (by rw [p4]; omega)]
    omega
  · unfold r5
    rw [List.drop_one, List.tail_cons, dr (be_len _ _)]
  · rw [List.length_cons, List.length_append, be_len]; omega
theorem pars_key {k i : Int} {nm : List UInt8} {c : Int} (h : rightK k i nm c = true) (hi : 0 ≤ i ∧ i < 4294967296) (hc : 0 ≤ c) : parsS (keyL k i nm c) = (k, i, nm, c, 0) := by
  have hl := lett_ne h
  obtain ⟨a1, a2, a3, a4⟩ := key_parts (nm := nm) (c := c) hl hi
  unfold parsS
  rw [if_neg a4, a1, a2, a3]
  have h0 := h
  unfold rightK at h0
  have h1 := (of_decide_eq_true h0).2
  by_cases h3 : k = 3
  · subst h3
    have hn : nm = [] ∧ c < 512 := by
      rcases h1 with h1 | h1 | h1
      · exact absurd h1.1 (by decide)
      · rcases h1.1 with h1 | h1 <;> exact absurd h1 (by decide)
      · exact h1.2
    obtain ⟨rfl, hc2⟩ := hn
    have e : ((num (be 4 c.toNat) : Nat) : Int) = c := by rw [num_be 4 _ (by rw [p4]; omega)]; omega
    rw [if_pos rfl, if_pos rfl, e, if_pos ⟨be_len _ _, h⟩]
  · have hc0 : c = 0 := by
      rcases h1 with h1 | h1 | h1
      · exact h1.2.2
      · exact h1.2.2
      · exact absurd h1.1 h3
    subst hc0
    rw [if_neg h3, if_neg h3, if_pos h]
theorem kind_lett {b : UInt8} (h : kindOf b ≠ 0) : lett (kindOf b) = [b] := by
  unfold kindOf at *
  by_cases h1 : b = 105
  · subst h1; rfl
  · by_cases h2 : b = 100
    · subst h2; rfl
    · by_cases h3 : b = 99
      · subst h3; rfl
      · by_cases h4 : b = 120
        · subst h4; rfl
        · rw [if_neg h1, if_neg h2, if_neg h3, if_neg h4] at h
          exact absurd rfl h
theorem key_whole {l : List UInt8} (h5 : ¬ l.length < 5) (hk : g1 l ≠ 0) : prefL (g1 l) (g2 l) ++ r5 l = l := by
  match l, h5 with
  | b :: r, h5 =>
    have hk : kindOf b ≠ 0 := hk
    have e : lett (g1 (b :: r)) = [b] := kind_lett hk
    have hr : 4 ≤ r.length := by simp at h5; omega
    unfold prefL
    rw [e, if_neg (by simp)]
    unfold g2 r5
    rw [List.drop_one, List.tail_cons, Int.toNat_natCast, be_num 4 _ (by rw [List.length_take]; omega)]
    simp
  | [], h5 => exact absurd (by decide) h5
theorem g2_range {l : List UInt8} (h5 : ¬ l.length < 5) : 0 ≤ g2 l ∧ g2 l < 4294967296 := by
  have a := num_lt 4 ((l.drop 1).take 4) (by rw [List.length_take, List.length_drop]; omega)
  rw [p4] at a
  unfold g2
  omega
theorem right_kind {k i : Int} {nm : List UInt8} {c : Int} (h : rightK k i nm c = true) : k ≠ 0 := by
  unfold rightK at h
  have h := (of_decide_eq_true h).2
  omega
theorem key_pars {l : List UInt8} {k i : Int} {nm : List UInt8} {c e : Int} (h : parsS l = (k, i, nm, c, e)) (he : e = 0) :
    rightK k i nm c = true ∧ keyL k i nm c = l ∧ (0 ≤ i ∧ i < 4294967296) ∧ 0 ≤ c := by
  subst he
  unfold parsS at h
  by_cases h5 : l.length < 5
  · rw [if_pos h5] at h; simp at h
  · rw [if_neg h5] at h
    by_cases h3 : g1 l = 3
    · rw [if_pos h3] at h
      by_cases hr : (r5 l).length = 4 ∧ rightK 3 (g2 l) [] (num (r5 l)) = true
      · rw [if_pos hr] at h
        simp only [Prod.mk.injEq] at h
        obtain ⟨rfl, rfl, rfl, rfl, _⟩ := h
        have hw := key_whole h5 (by rw [h3]; decide)
        refine ⟨hr.2, ?_, g2_range h5, by omega⟩
        unfold keyL
        rw [if_pos rfl, Int.toNat_natCast, be_num 4 _ hr.1]
        rw [h3] at hw
        exact hw
      · rw [if_neg hr] at h; simp at h
    · rw [if_neg h3] at h
      by_cases hr : rightK (g1 l) (g2 l) (r5 l) 0 = true
      · rw [if_pos hr] at h
        simp only [Prod.mk.injEq] at h
        obtain ⟨rfl, rfl, rfl, rfl, _⟩ := h
        refine ⟨hr, ?_, g2_range h5, by omega⟩
        unfold keyL
        rw [if_neg h3]
        exact key_whole h5 (right_kind hr)
      · rw [if_neg hr] at h; simp at h
theorem key_len {k i : Int} {nm : List UInt8} {c : Int} (h : rightK k i nm c = true) : 5 ≤ (keyL k i nm c).length ∧ (keyL k i nm c).length ≤ 48 := by
  unfold keyL
  rw [List.length_append, prefL_len (lett_ne h)]
  unfold rightK at h
  have h1 := (of_decide_eq_true h).2
  by_cases h3 : k = 3
  · rw [if_pos h3, be_len]; omega
  · rw [if_neg h3]
    have : nm.length ≤ 24 := by
      rcases h1 with h1 | h1 | h1
      · rw [h1.2.1]; decide
      · exact (nameL_iff.1 h1.2.1).2.1
      · exact absurd h1.1 h3
    omega
end Go.Proofs.YtnngbhdofgodiaaGreatDoor.PM
end

section
/- Bytes of texts; the reference's Name. -/
namespace Go.Proofs.YtnngbhdofgodiaaGreatDoor.Z
open Go.RowKit Go.Proofs.YtnngbhdofgodiaaGreatDoorW.PrintWords Go.Proofs.YtnngbhdofgodiaaGreatDoorW.PrintLast Go.Proofs.YtnngbhdofgodiaaGreatDoor.PM
set_option linter.unusedVariables false
theorem index_mem (l : List UInt8) (c : UInt8) : 0 ≤ Lib.indexByte l c ↔ c ∈ l := by
  induction l with
  | nil => simp [Lib.indexByte]
  | cons b l ih =>
    unfold Lib.indexByte
    by_cases hb : b = c
    · subst hb; simp
    · have hb2 : (b == c) = false := by simpa using hb
      rw [hb2]
      by_cases h1 : Lib.indexByte l c = -1
      · have hn : c ∉ l := fun hm => by have := ih.2 hm; omega
        simp [h1, hn, Ne.symm hb]
      · have := Lib.indexByte_ge l c
        have hm : c ∈ l := ih.1 (by omega)
        have h2 : (Lib.indexByte l c == -1) = false := by simpa using h1
        simp [h2, hm]; omega
theorem bt_get (s : ByteArray) (i : Nat) (h : i < s.data.toList.length) : bt s (i : Int) = ((s.data.toList[i]).toNat : Int) := by
  have hs : i < s.size := by rw [Array.length_toList] at h; exact h
  unfold bt
  rw [dif_pos (by simpa using hs)]
  simp only [Int.toNat_natCast, Array.getElem_toList]
  rfl
theorem byte_eq (x : UInt8) (n : Nat) (hn : n < 256) : ((x.toNat : Int) = n) ↔ x = n.toUInt8 := by
  constructor
  · intro h
    have : x.toNat = n := by omega
    rw [← UInt8.toNat_inj]
    simp [this]; omega
  · intro h; subst h; simp; omega
theorem toList_nil (a : ByteArray) : a.toList = [] ↔ a.data.toList = [] := by rw [ByteArray.toList_eq]
theorem size_len (a : ByteArray) : a.size = a.data.toList.length := by rw [Array.length_toList]; rfl

/-- What the reference's Name asks behind its loop. -/
def tailB (a : ByteArray) : Bool := decide (a.data.toList ≠ [] ∧ a.data.toList.length ≤ 24 ∧ a.data.toList ≠ [46] ∧ a.data.toList ≠ [46, 46])
end Go.Proofs.YtnngbhdofgodiaaGreatDoor.Z
end

section
/-
  DERIVED: THE SHELF's CONTRACTS AT THIS DUMP, IN PLAIN WORDS (tools/lay-plain.mjs out of 'TryzShelf.lean', which tools/lay-shelf.mjs wrote): THE SAME DECLARATIONS UNDER THE SAME NAMES: 'import', 'namespace', 'open', 'def', 'theorem' AND NOTHING ELSE: no command of the shelf's: FOR A HAND-IN. Each laying: the table of numbers ('.._ren') and one theorem, a field a fact of the dump's own or the kernel's comparison; each contract: ONE APPLICATION.
-/
namespace Go.Proofs
open Go.Shelf
def Tryz.lays169_ren : Go.Shelf.Ren := ⟨fun | 169 => 25 | n => n, fun | 70 => 59 | 9 => 9 | 0 => 0 | 72 => 61 | 37 => 40 | 127 => 88 | 3 => 3 | 5 => 5 | n => n, fun | n => n⟩
theorem Tryz.lays169 : Go.Proofs.Lays.n169 Tryz.prog Tryz.lays169_ren := {
  mixed := by kernel_rfl
  f169 := Tryz.func25.trans (congrArg some (by kernel_rfl))
  t0 := Tryz.underlying0
  a0 := Tryz.isAgg0
  z0 := Tryz.sizeOf0
  v0 := Tryz.zeroValue0
  t3 := Tryz.underlying3
  a3 := Tryz.isAgg3
  z3 := Tryz.sizeOf3
  v3 := Tryz.zeroValue3
  t9 := Tryz.underlying9
  a9 := Tryz.isAgg9
  z9 := Tryz.sizeOf9
  v9 := Tryz.zeroValue9
  t37 := Tryz.underlying40
  a37 := Tryz.isAgg40
  z37 := Tryz.sizeOf40
  v37 := Tryz.zeroValue40
  t70 := Tryz.underlying59
  a70 := Tryz.isAgg59
  z70 := Tryz.sizeOf59
  v70 := Tryz.zeroValue59
  t72 := Tryz.underlying61
  a72 := Tryz.isAgg61
  z72 := Tryz.sizeOf61
  v72 := Tryz.zeroValue61
  t127 := Tryz.underlying88
  a127 := Tryz.isAgg88
  z127 := Tryz.sizeOf88
  v127 := Tryz.zeroValue88 }
theorem Tryz.Builder_Extra_169 : Builder.Extra Tryz.prog Tryz.lays169_ren := {
  sizeBuilder := by kernel_rfl
  liesBuilder := by kernel_rfl
  t5 := Tryz.underlying5
  a5 := Tryz.isAgg5
  z5 := Tryz.sizeOf5
  v5 := Tryz.zeroValue5
  infoByte := by kernel_rfl
  cellsByte := by kernel_rfl
  sizeByte := by kernel_rfl
  neB5 := by decide }
open Go.RowKit in
/-- (*strings.Builder).String: "String returns the accumulated string.": OF A BUILDER THAT HOLDS AT LEAST ONE BYTE. ✋ THE MODEL FREEZES THOSE BYTES IN THE BUFFER (unsafe.String): a later write INTO them ends the model's run without an answer; a later append BEHIND them goes on. The statement's order of evaluation is drawn: one draw. (LAID: no walk: one application.) -/
theorem Tryz.Builder_String (B b : Nat) (l : List UInt8) (w : World) (h : Lib.IsBuilder 61 5 B b (Lib.byteCells l) w) (h0 : l ≠ []) :
    Calls Tryz.prog 25 #[.pointer (some ⟨b, 0, none⟩)] w fun e w' => e = .returned (.string ⟨l.toArray⟩) ∧ Below B w w' := Any.Builder_String Tryz.lays169 Tryz.Builder_Extra_169 B b l w h h0
open Go.RowKit in
/-- (*strings.Builder).String OF A BUILDER THAT HOLDS NO BYTE: the empty string. (Its buffer is nil, or a row of which it has taken nothing yet; where that row has NO capacity the model lays one new block for unsafe.SliceData's 'some address'.) One draw. (LAID: no walk: one application.) -/
theorem Tryz.Builder_String_empty (B b : Nat) (w : World) (h : Lib.IsBuilder 61 5 B b [] w) (hBw : B ≤ w.heap.size) :
    Calls Tryz.prog 25 #[.pointer (some ⟨b, 0, none⟩)] w fun e w' => e = .returned (.string ⟨#[]⟩) ∧ Below B w w' := Any.Builder_String_empty Tryz.lays169 Tryz.Builder_Extra_169 B b w h hBw
open Go.RowKit in
/-- (*strings.Builder).String: "String returns the accumulated string.": WHATEVER THE BUILDER HOLDS. (LAID: no walk: one application.) -/
theorem Tryz.Builder_String_any (B b : Nat) (l : List UInt8) (w : World) (h : Lib.IsBuilder 61 5 B b (Lib.byteCells l) w) (hBw : B ≤ w.heap.size) :
    Calls Tryz.prog 25 #[.pointer (some ⟨b, 0, none⟩)] w fun e w' => e = .returned (.string ⟨l.toArray⟩) ∧ Below B w w' := Any.Builder_String_any Tryz.lays169 Tryz.Builder_Extra_169 B b l w h hBw
def Tryz.lays232_ren : Go.Shelf.Ren := ⟨fun | 232 => 48 | n => n, fun | 9 => 9 | 5 => 5 | 3 => 3 | 4 => 4 | n => n, fun | n => n⟩
theorem Tryz.lays232 : Go.Proofs.Lays.n232 Tryz.prog Tryz.lays232_ren := {
  mixed := by kernel_rfl
  f232 := Tryz.func48.trans (congrArg some (by kernel_rfl))
  t3 := Tryz.underlying3
  a3 := Tryz.isAgg3
  z3 := Tryz.sizeOf3
  v3 := Tryz.zeroValue3
  t4 := Tryz.underlying4
  a4 := Tryz.isAgg4
  z4 := Tryz.sizeOf4
  v4 := Tryz.zeroValue4
  t5 := Tryz.underlying5
  a5 := Tryz.isAgg5
  z5 := Tryz.sizeOf5
  v5 := Tryz.zeroValue5
  t9 := Tryz.underlying9
  a9 := Tryz.isAgg9
  z9 := Tryz.sizeOf9
  v9 := Tryz.zeroValue9 }
open Go.RowKit in
/-- strings.trimRightByte (no doc; what TrimRight and Trim call at a cutset of one ASCII byte): the trailing bytes that are c are cut off. The world is as it was. ('hs': a string's length is a number that an int holds.) (LAID: no walk: one application.) -/
theorem Tryz.strings_trimRightByte (s : ByteArray) (c : UInt8) (w : World) (hs : s.size ≤ 9223372036854775807) :
    Calls Tryz.prog 48 #[.string s, .int .u8 c.toNat] w fun e w' => e = .returned (.string ⟨(Lib.trimRightB s.data.toList c).toArray⟩) ∧ w' = w := Any.strings_trimRightByte Tryz.lays232 s c w hs
def Tryz.lays162_ren : Go.Shelf.Ren := ⟨fun | 162 => 32 | 232 => 48 | 227 => 49 | 234 => 50 | 236 => 51 | 228 => 61 | 271 => 62 | 151 => 63 | 120 => 69 | 197 => 70 | 152 => 71 | 260 => 77 | 137 => 78 | 119 => 79 | 224 => 80 | 225 => 81 | 217 => 87 | 266 => 97 | n => n, fun | 9 => 9 | 4 => 4 | 3 => 3 | 5 => 5 | 117 => 114 | 116 => 113 | 0 => 0 | 124 => 117 | 21 => 21 | 105 => 129 | 46 => 118 | 119 => 146 | 139 => 149 | 138 => 148 | n => n, fun | 3 => 0 | 4 => 1 | n => n⟩
theorem Tryz.lays162 : Go.Proofs.Lays.n162 Tryz.prog Tryz.lays162_ren := {
  mixed := by kernel_rfl
  f119 := Tryz.func79.trans (congrArg some (by kernel_rfl))
  f120 := Tryz.func69.trans (congrArg some (by kernel_rfl))
  f137 := Tryz.func78.trans (congrArg some (by kernel_rfl))
  f151 := Tryz.func63.trans (congrArg some (by kernel_rfl))
  f152 := Tryz.func71.trans (congrArg some (by kernel_rfl))
  f162 := Tryz.func32.trans (congrArg some (by kernel_rfl))
  f197 := Tryz.func70.trans (congrArg some (by kernel_rfl))
  f217 := Tryz.func87.trans (congrArg some (by kernel_rfl))
  f224 := Tryz.func80.trans (congrArg some (by kernel_rfl))
  f225 := Tryz.func81.trans (congrArg some (by kernel_rfl))
  f227 := Tryz.func49.trans (congrArg some (by kernel_rfl))
  f228 := Tryz.func61.trans (congrArg some (by kernel_rfl))
  f232 := Tryz.func48.trans (congrArg some (by kernel_rfl))
  f234 := Tryz.func50.trans (congrArg some (by kernel_rfl))
  f236 := Tryz.func51.trans (congrArg some (by kernel_rfl))
  f260 := Tryz.func77.trans (congrArg some (by kernel_rfl))
  f266 := Tryz.func97.trans (congrArg some (by kernel_rfl))
  f271 := Tryz.func62.trans (congrArg some (by kernel_rfl))
  t0 := Tryz.underlying0
  a0 := Tryz.isAgg0
  z0 := Tryz.sizeOf0
  v0 := Tryz.zeroValue0
  t3 := Tryz.underlying3
  a3 := Tryz.isAgg3
  z3 := Tryz.sizeOf3
  v3 := Tryz.zeroValue3
  t4 := Tryz.underlying4
  a4 := Tryz.isAgg4
  z4 := Tryz.sizeOf4
  v4 := Tryz.zeroValue4
  t5 := Tryz.underlying5
  a5 := Tryz.isAgg5
  z5 := Tryz.sizeOf5
  v5 := Tryz.zeroValue5
  t9 := Tryz.underlying9
  a9 := Tryz.isAgg9
  z9 := Tryz.sizeOf9
  v9 := Tryz.zeroValue9
  t21 := Tryz.underlying21
  a21 := Tryz.isAgg21
  z21 := Tryz.sizeOf21
  v21 := Tryz.zeroValue21
  t46 := Tryz.underlying118
  a46 := Tryz.isAgg118
  z46 := Tryz.sizeOf118
  v46 := Tryz.zeroValue118
  t105 := Tryz.underlying129
  a105 := Tryz.isAgg129
  z105 := Tryz.sizeOf129
  v105 := Tryz.zeroValue129
  t116 := Tryz.underlying113
  a116 := Tryz.isAgg113
  z116 := Tryz.sizeOf113
  t117 := Tryz.underlying114
  a117 := Tryz.isAgg114
  z117 := Tryz.sizeOf114
  v117 := Tryz.zeroValue114
  t119 := Tryz.underlying146
  a119 := Tryz.isAgg146
  z119 := Tryz.sizeOf146
  t124 := Tryz.underlying117
  a124 := Tryz.isAgg117
  z124 := Tryz.sizeOf117
  v124 := Tryz.zeroValue117
  t138 := Tryz.underlying148
  a138 := Tryz.isAgg148
  z138 := Tryz.sizeOf148
  v138 := Tryz.zeroValue148
  t139 := Tryz.underlying149
  a139 := Tryz.isAgg149
  z139 := Tryz.sizeOf149
  v139 := Tryz.zeroValue149
  g3 := by kernel_rfl
  g4 := by kernel_rfl }
open Go.RowKit in
/-- strings.TrimRight: "TrimRight returns a slice of the string s, with all trailing Unicode code points contained in cutset removed.": AT A cutset OF ONE ASCII BYTE. The world is as it was. (LAID: no walk: one application.) -/
theorem Tryz.strings_TrimRight_one (s : ByteArray) (c : UInt8) (hc : c.toNat < 128) (w : World) (hs : s.size ≤ 9223372036854775807) :
    Calls Tryz.prog 32 #[.string s, .string ⟨#[c]⟩] w fun e w' => e = .returned (.string ⟨(Lib.trimRightB s.data.toList c).toArray⟩) ∧ w' = w := Any.strings_TrimRight_one Tryz.lays162 s c hc w hs
def Tryz.lays119_ren : Go.Shelf.Ren := ⟨fun | 119 => 79 | n => n, fun | 21 => 21 | 4 => 4 | n => n, fun | n => n⟩
theorem Tryz.lays119 : Go.Proofs.Lays.n119 Tryz.prog Tryz.lays119_ren := {
  mixed := by kernel_rfl
  f119 := Tryz.func79.trans (congrArg some (by kernel_rfl))
  t4 := Tryz.underlying4
  a4 := Tryz.isAgg4
  z4 := Tryz.sizeOf4
  v4 := Tryz.zeroValue4
  t21 := Tryz.underlying21
  a21 := Tryz.isAgg21
  z21 := Tryz.sizeOf21
  v21 := Tryz.zeroValue21 }
/-- utf8.ValidRune: "ValidRune reports whether r can be legally encoded as UTF-8. Code points that are out of range or a surrogate half are illegal.": IT RETURNS 'Lib.validRune r'; the world is as it was. (LAID: no walk: one application.) -/
theorem Tryz.utf8_ValidRune (r : Int) (w : World) :
    Calls Tryz.prog 79 #[.int .i32 r] w fun e w' => e = .returned (.bool (Lib.validRune r)) ∧ w' = w := Any.utf8_ValidRune Tryz.lays119 r w
def Tryz.lays120_ren : Go.Shelf.Ren := ⟨fun | 120 => 69 | n => n, fun | 5 => 5 | 4 => 4 | n => n, fun | n => n⟩
theorem Tryz.lays120 : Go.Proofs.Lays.n120 Tryz.prog Tryz.lays120_ren := {
  mixed := by kernel_rfl
  f120 := Tryz.func69.trans (congrArg some (by kernel_rfl))
  t4 := Tryz.underlying4
  a4 := Tryz.isAgg4
  z4 := Tryz.sizeOf4
  v4 := Tryz.zeroValue4
  t5 := Tryz.underlying5
  a5 := Tryz.isAgg5
  z5 := Tryz.sizeOf5
  v5 := Tryz.zeroValue5 }
/-- utf8.RuneStart: "RuneStart reports whether the byte could be the first byte of an encoded, possibly invalid rune. Second and subsequent bytes always have the top two bits set to 10.": IT RETURNS 'Lib.runeStart b'; the world is as it was. ('h0', 'h1': b is a byte: a caller has it of every byte that it was handed.) (LAID: no walk: one application.) -/
theorem Tryz.utf8_RuneStart (b : Int) (w : World) (h0 : 0 ≤ b) (h1 : b < 256) :
    Calls Tryz.prog 69 #[.int .u8 b] w fun e w' => e = .returned (.bool (Lib.runeStart b)) ∧ w' = w := Any.utf8_RuneStart Tryz.lays120 b w h0 h1
def Tryz.lays137_ren : Go.Shelf.Ren := ⟨fun | 137 => 78 | 217 => 87 | 266 => 97 | n => n, fun | 9 => 9 | 5 => 5 | 3 => 3 | n => n, fun | n => n⟩
theorem Tryz.lays137 : Go.Proofs.Lays.n137 Tryz.prog Tryz.lays137_ren := {
  mixed := by kernel_rfl
  f137 := Tryz.func78.trans (congrArg some (by kernel_rfl))
  f217 := Tryz.func87.trans (congrArg some (by kernel_rfl))
  f266 := Tryz.func97.trans (congrArg some (by kernel_rfl))
  t3 := Tryz.underlying3
  a3 := Tryz.isAgg3
  z3 := Tryz.sizeOf3
  v3 := Tryz.zeroValue3
  t5 := Tryz.underlying5
  a5 := Tryz.isAgg5
  z5 := Tryz.sizeOf5
  v5 := Tryz.zeroValue5
  t9 := Tryz.underlying9
  a9 := Tryz.isAgg9
  z9 := Tryz.sizeOf9
  v9 := Tryz.zeroValue9 }
open Go.RowKit in
/-- strings.IndexByte: "IndexByte returns the index of the first instance of c in s, or -1 if c is not present in s.": IT RETURNS 'Lib.indexByte s c'; the world is as it was. (LAID: no walk: one application.) -/
theorem Tryz.strings_IndexByte (s : ByteArray) (c : Int) (w : World) :
    Calls Tryz.prog 78 #[.string s, .int .u8 c] w fun e w' => e = .returned (.int .i64 (Lib.indexByte s.data.toList c.toNat.toUInt8)) ∧ w' = w := Any.strings_IndexByte Tryz.lays137 s c w
open Go.RowKit in
/-- (*strings.Builder).String: "String returns the accumulated string.": OF A BUILDER THAT HOLDS AT LEAST ONE BYTE. ✋ THE MODEL FREEZES THOSE BYTES IN THE BUFFER (unsafe.String): a later write INTO them ends the model's run without an answer; a later append BEHIND them goes on. The statement's order of evaluation is drawn: one draw. THE FORM '_f': IT SAYS BESIDES THAT THE BUILDER IS A BUILDER STILL ('Lib.IsBuilderF', the same bytes): SO IT CAN BE WRITTEN ON: 'b.WriteString(b.String()[:k])'. (LAID: no walk: one application.) -/
theorem Tryz.Builder_String_f (B b : Nat) (l : List UInt8) (w : World) (h : Lib.IsBuilderF 61 5 B b (Lib.byteCells l) w) (h0 : l ≠ []) :
    Calls Tryz.prog 25 #[.pointer (some ⟨b, 0, none⟩)] w fun e w' => e = .returned (.string ⟨l.toArray⟩) ∧ (Lib.IsBuilderF 61 5 B b (Lib.byteCells l) w' ∧ Below B w w') := Any.Builder_String_f Tryz.lays169 Tryz.Builder_Extra_169 B b l w h h0
open Go.RowKit in
/-- (*strings.Builder).String OF A BUILDER THAT HOLDS NO BYTE: the empty string; THE FORM '_f': a builder still. (LAID: no walk: one application.) -/
theorem Tryz.Builder_String_empty_f (B b : Nat) (w : World) (h : Lib.IsBuilderF 61 5 B b [] w) (hBw : B ≤ w.heap.size) :
    Calls Tryz.prog 25 #[.pointer (some ⟨b, 0, none⟩)] w fun e w' => e = .returned (.string ⟨#[]⟩) ∧ (Lib.IsBuilderF 61 5 B b [] w' ∧ Below B w w') := Any.Builder_String_empty_f Tryz.lays169 Tryz.Builder_Extra_169 B b w h hBw
open Go.RowKit in
/-- (*strings.Builder).String: "String returns the accumulated string.": WHATEVER THE BUILDER HOLDS; THE FORM '_f': OF A BUILDER THAT MAY HAVE BEEN READ BEFORE; AND IT IS A BUILDER STILL, holding the same bytes: it can be written on. (LAID: no walk: one application.) -/
theorem Tryz.Builder_String_any_f (B b : Nat) (l : List UInt8) (w : World) (h : Lib.IsBuilderF 61 5 B b (Lib.byteCells l) w) (hBw : B ≤ w.heap.size) :
    Calls Tryz.prog 25 #[.pointer (some ⟨b, 0, none⟩)] w fun e w' => e = .returned (.string ⟨l.toArray⟩) ∧ (Lib.IsBuilderF 61 5 B b (Lib.byteCells l) w' ∧ Below B w w') := Any.Builder_String_any_f Tryz.lays169 Tryz.Builder_Extra_169 B b l w h hBw
open Go.RowKit in
/-- (*strings.Builder).String: "String returns the accumulated string.": OF A BUILDER THAT HOLDS AT LEAST ONE BYTE. ✋ THE MODEL FREEZES THOSE BYTES IN THE BUFFER (unsafe.String): a later write INTO them ends the model's run without an answer; a later append BEHIND them goes on. The statement's order of evaluation is drawn: one draw. THE FORM '_k': OVER 'Lib.IsBuilderF' (a builder that 'String()' may have read), AND WITH THE FRAME THAT REACHES ABOVE THE BUILDER: 'Lib.OthersKept': every block that is not b and is no row of uint8's stands as it stood: the iterator of a range among them. (LAID: no walk: one application.) -/
theorem Tryz.Builder_String_k (B b : Nat) (l : List UInt8) (w : World) (h : Lib.IsBuilderF 61 5 B b (Lib.byteCells l) w) (h0 : l ≠ []) :
    Calls Tryz.prog 25 #[.pointer (some ⟨b, 0, none⟩)] w fun e w' => e = .returned (.string ⟨l.toArray⟩) ∧ (Lib.IsBuilderF 61 5 B b (Lib.byteCells l) w' ∧ Below B w w' ∧ Lib.OthersKept 5 (some b) w w') := Any.Builder_String_k Tryz.lays169 Tryz.Builder_Extra_169 B b l w h h0
open Go.RowKit in
/-- (*strings.Builder).String OF A BUILDER THAT HOLDS NO BYTE: the empty string; THE FORM '_k': OVER 'Lib.IsBuilderF' (a builder that 'String()' may have read), AND WITH THE FRAME THAT REACHES ABOVE THE BUILDER: 'Lib.OthersKept': every block that is not b and is no row of uint8's stands as it stood: the iterator of a range among them. (LAID: no walk: one application.) -/
theorem Tryz.Builder_String_empty_k (B b : Nat) (w : World) (h : Lib.IsBuilderF 61 5 B b [] w) (hBw : B ≤ w.heap.size) :
    Calls Tryz.prog 25 #[.pointer (some ⟨b, 0, none⟩)] w fun e w' => e = .returned (.string ⟨#[]⟩) ∧ (Lib.IsBuilderF 61 5 B b [] w' ∧ Below B w w' ∧ Lib.OthersKept 5 (some b) w w') := Any.Builder_String_empty_k Tryz.lays169 Tryz.Builder_Extra_169 B b w h hBw
open Go.RowKit in
/-- (*strings.Builder).String: "String returns the accumulated string.": WHATEVER THE BUILDER HOLDS; THE FORM '_k': OVER 'Lib.IsBuilderF' (a builder that 'String()' may have read), AND WITH THE FRAME THAT REACHES ABOVE THE BUILDER: 'Lib.OthersKept': every block that is not b and is no row of uint8's stands as it stood: the iterator of a range among them. (LAID: no walk: one application.) -/
theorem Tryz.Builder_String_any_k (B b : Nat) (l : List UInt8) (w : World) (h : Lib.IsBuilderF 61 5 B b (Lib.byteCells l) w) (hBw : B ≤ w.heap.size) :
    Calls Tryz.prog 25 #[.pointer (some ⟨b, 0, none⟩)] w fun e w' => e = .returned (.string ⟨l.toArray⟩) ∧ (Lib.IsBuilderF 61 5 B b (Lib.byteCells l) w' ∧ Below B w w' ∧ Lib.OthersKept 5 (some b) w w') := Any.Builder_String_any_k Tryz.lays169 Tryz.Builder_Extra_169 B b l w h hBw
def Tryz.lays129_ren : Go.Shelf.Ren := ⟨fun | 129 => 68 | n => n, fun | 53 => 37 | 3 => 3 | 4 => 4 | 46 => 118 | 5 => 5 | 9 => 9 | n => n, fun | n => n⟩
theorem Tryz.lays129 : Go.Proofs.Lays.n129 Tryz.prog Tryz.lays129_ren := {
  mixed := by kernel_rfl
  f129 := Tryz.func68.trans (congrArg some (by kernel_rfl))
  t3 := Tryz.underlying3
  a3 := Tryz.isAgg3
  z3 := Tryz.sizeOf3
  v3 := Tryz.zeroValue3
  t4 := Tryz.underlying4
  a4 := Tryz.isAgg4
  z4 := Tryz.sizeOf4
  v4 := Tryz.zeroValue4
  t5 := Tryz.underlying5
  a5 := Tryz.isAgg5
  z5 := Tryz.sizeOf5
  v5 := Tryz.zeroValue5
  t9 := Tryz.underlying9
  a9 := Tryz.isAgg9
  z9 := Tryz.sizeOf9
  v9 := Tryz.zeroValue9
  t46 := Tryz.underlying118
  a46 := Tryz.isAgg118
  z46 := Tryz.sizeOf118
  v46 := Tryz.zeroValue118
  t53 := Tryz.underlying37
  a53 := Tryz.isAgg37
  z53 := Tryz.sizeOf37
  v53 := Tryz.zeroValue37 }
/-- bits.Len64: "Len64 returns the minimum number of bits required to represent x; the result is 0 for x == 0.": IT RETURNS 'Lib.bitLen x'; the world is as it was. ('h0', 'h1': x is a uint64.) (LAID: no walk: one application.) -/
theorem Tryz.bits_Len64 (x : Int) (w : World) (h0 : 0 ≤ x) (h1 : x ≤ 18446744073709551615) :
    Calls Tryz.prog 68 #[.int .u64 x] w fun e w' => e = .returned (.int .i64 (Lib.bitLen x.toNat)) ∧ w' = w := Any.bits_Len64 Tryz.lays129 x w h0 h1
def Tryz.lays217_ren : Go.Shelf.Ren := ⟨fun | 217 => 87 | 266 => 97 | n => n, fun | 9 => 9 | 5 => 5 | 3 => 3 | n => n, fun | n => n⟩
theorem Tryz.lays217 : Go.Proofs.Lays.n217 Tryz.prog Tryz.lays217_ren := {
  mixed := by kernel_rfl
  f217 := Tryz.func87.trans (congrArg some (by kernel_rfl))
  f266 := Tryz.func97.trans (congrArg some (by kernel_rfl))
  t3 := Tryz.underlying3
  a3 := Tryz.isAgg3
  z3 := Tryz.sizeOf3
  v3 := Tryz.zeroValue3
  t5 := Tryz.underlying5
  a5 := Tryz.isAgg5
  z5 := Tryz.sizeOf5
  v5 := Tryz.zeroValue5
  t9 := Tryz.underlying9
  a9 := Tryz.isAgg9
  z9 := Tryz.sizeOf9
  v9 := Tryz.zeroValue9 }
open Go.RowKit Go.Lib in
/-- internal/stringslite.IndexByte (what strings.IndexByte calls): IT RETURNS 'Lib.indexByte s c'; the world is as it was. (LAID: no walk: one application.) -/
theorem Tryz.stringslite_IndexByte (s : ByteArray) (c : Int) (w : World) :
    Calls Tryz.prog 87 #[.string s, .int .u8 c] w fun e w' => e = .returned (.int .i64 (Lib.indexByte s.data.toList c.toNat.toUInt8)) ∧ w' = w := Any.stringslite_IndexByte Tryz.lays217 s c w
def Tryz.lays224_ren : Go.Shelf.Ren := ⟨fun | 224 => 80 | n => n, fun | 3 => 3 | n => n, fun | n => n⟩
theorem Tryz.lays224 : Go.Proofs.Lays.n224 Tryz.prog Tryz.lays224_ren := {
  mixed := by kernel_rfl
  f224 := Tryz.func80.trans (congrArg some (by kernel_rfl))
  t3 := Tryz.underlying3
  a3 := Tryz.isAgg3
  z3 := Tryz.sizeOf3
  v3 := Tryz.zeroValue3 }
open Go.RowKit Go.Lib in
/-- internal/bytealg.Cutover: "Cutover reports the number of failures of IndexByte we should tolerate before switching over to Index. n is the number of bytes processed so far.": on amd64: (n + 16) / 8. (LAID: no walk: one application.) -/
theorem Tryz.bytealg_Cutover (n : Int) (h0 : 0 ≤ n) (h1 : n < 4611686018427387904) (w : World) :
    Calls Tryz.prog 80 #[.int .i64 n] w fun e w' => e = .returned (.int .i64 ((n + 16) / 8)) ∧ w' = w := Any.bytealg_Cutover Tryz.lays224 n h0 h1 w
def Tryz.lays314_ren : Go.Shelf.Ren := ⟨fun | 314 => 106 | n => n, fun | 9 => 9 | 51 => 23 | 3 => 3 | 4 => 4 | 5 => 5 | 46 => 118 | n => n, fun | n => n⟩
theorem Tryz.lays314 : Go.Proofs.Lays.n314 Tryz.prog Tryz.lays314_ren := {
  mixed := by kernel_rfl
  f314 := Tryz.func106.trans (congrArg some (by kernel_rfl))
  t3 := Tryz.underlying3
  a3 := Tryz.isAgg3
  z3 := Tryz.sizeOf3
  v3 := Tryz.zeroValue3
  t4 := Tryz.underlying4
  a4 := Tryz.isAgg4
  z4 := Tryz.sizeOf4
  v4 := Tryz.zeroValue4
  t5 := Tryz.underlying5
  a5 := Tryz.isAgg5
  z5 := Tryz.sizeOf5
  v5 := Tryz.zeroValue5
  t9 := Tryz.underlying9
  a9 := Tryz.isAgg9
  z9 := Tryz.sizeOf9
  v9 := Tryz.zeroValue9
  t46 := Tryz.underlying118
  a46 := Tryz.isAgg118
  z46 := Tryz.sizeOf118
  v46 := Tryz.zeroValue118
  t51 := Tryz.underlying23
  a51 := Tryz.isAgg23
  z51 := Tryz.sizeOf23
  v51 := Tryz.zeroValue23 }
open Go.RowKit Go.Lib in
/-- hashStr: "returns the hash and the appropriate multiplicative factor for use in Rabin-Karp algorithm": THE HASH OF ALL OF sep, AND 16777619 ^ len(sep), both in uint32. (LAID: no walk: one application.) -/
theorem Tryz.bytealg_hashStr (sep : ByteArray) (hs : sep.size < 4294967281) (w : World) :
    Calls Tryz.prog 106 #[.string sep] w fun e w' => e = .returned (.tuple #[.int .u32 (RK.H sep.data.toList % 4294967296), .int .u32 (16777619 ^ sep.size % 4294967296)]) ∧ w' = w := Any.bytealg_hashStr Tryz.lays314 sep hs w
def Tryz.lays267_ren : Go.Shelf.Ren := ⟨fun | 267 => 105 | 314 => 106 | n => n, fun | 9 => 9 | 3 => 3 | 146 => 160 | 51 => 23 | 4 => 4 | 5 => 5 | 46 => 118 | n => n, fun | n => n⟩
theorem Tryz.lays267 : Go.Proofs.Lays.n267 Tryz.prog Tryz.lays267_ren := {
  mixed := by kernel_rfl
  f267 := Tryz.func105.trans (congrArg some (by kernel_rfl))
  f314 := Tryz.func106.trans (congrArg some (by kernel_rfl))
  t3 := Tryz.underlying3
  a3 := Tryz.isAgg3
  z3 := Tryz.sizeOf3
  v3 := Tryz.zeroValue3
  t4 := Tryz.underlying4
  a4 := Tryz.isAgg4
  z4 := Tryz.sizeOf4
  v4 := Tryz.zeroValue4
  t5 := Tryz.underlying5
  a5 := Tryz.isAgg5
  z5 := Tryz.sizeOf5
  v5 := Tryz.zeroValue5
  t9 := Tryz.underlying9
  a9 := Tryz.isAgg9
  z9 := Tryz.sizeOf9
  v9 := Tryz.zeroValue9
  t46 := Tryz.underlying118
  a46 := Tryz.isAgg118
  z46 := Tryz.sizeOf118
  v46 := Tryz.zeroValue118
  t51 := Tryz.underlying23
  a51 := Tryz.isAgg23
  z51 := Tryz.sizeOf23
  v51 := Tryz.zeroValue23
  t146 := Tryz.underlying160
  a146 := Tryz.isAgg160
  z146 := Tryz.sizeOf160
  v146 := Tryz.zeroValue160 }
open Go.RowKit Go.Lib in
theorem Tryz.bytealg_IndexRabinKarp (s sep : ByteArray) (h1 : 1 ≤ sep.size) (h2 : sep.size ≤ s.size) (hs : s.size < 4294967281) (w : World) :
    Calls Tryz.prog 105 #[.string s, .string sep] w fun e w' => e = .returned (.int .i64 (Lib.index s.data.toList sep.data.toList)) ∧ w' = w := Any.bytealg_IndexRabinKarp Tryz.lays267 s sep h1 h2 hs w
def Tryz.lays219_ren : Go.Shelf.Ren := ⟨fun | 219 => 96 | 217 => 87 | 225 => 81 | 224 => 80 | 267 => 105 | 266 => 97 | 314 => 106 | n => n, fun | 9 => 9 | 3 => 3 | 4 => 4 | 5 => 5 | 46 => 118 | 146 => 160 | 51 => 23 | n => n, fun | 1 => 2 | n => n⟩
theorem Tryz.lays219 : Go.Proofs.Lays.n219 Tryz.prog Tryz.lays219_ren := {
  mixed := by kernel_rfl
  f217 := Tryz.func87.trans (congrArg some (by kernel_rfl))
  f219 := Tryz.func96.trans (congrArg some (by kernel_rfl))
  f224 := Tryz.func80.trans (congrArg some (by kernel_rfl))
  f225 := Tryz.func81.trans (congrArg some (by kernel_rfl))
  f266 := Tryz.func97.trans (congrArg some (by kernel_rfl))
  f267 := Tryz.func105.trans (congrArg some (by kernel_rfl))
  f314 := Tryz.func106.trans (congrArg some (by kernel_rfl))
  t3 := Tryz.underlying3
  a3 := Tryz.isAgg3
  z3 := Tryz.sizeOf3
  v3 := Tryz.zeroValue3
  t4 := Tryz.underlying4
  a4 := Tryz.isAgg4
  z4 := Tryz.sizeOf4
  v4 := Tryz.zeroValue4
  t5 := Tryz.underlying5
  a5 := Tryz.isAgg5
  z5 := Tryz.sizeOf5
  v5 := Tryz.zeroValue5
  t9 := Tryz.underlying9
  a9 := Tryz.isAgg9
  z9 := Tryz.sizeOf9
  v9 := Tryz.zeroValue9
  t46 := Tryz.underlying118
  a46 := Tryz.isAgg118
  z46 := Tryz.sizeOf118
  v46 := Tryz.zeroValue118
  t51 := Tryz.underlying23
  a51 := Tryz.isAgg23
  z51 := Tryz.sizeOf23
  v51 := Tryz.zeroValue23
  t146 := Tryz.underlying160
  a146 := Tryz.isAgg160
  z146 := Tryz.sizeOf160
  v146 := Tryz.zeroValue160
  g1 := by kernel_rfl }
open Go.RowKit Go.Lib in
/-- internal/stringslite.Index (what strings.Index calls) AT A substr OF ONE BYTE c: IT RETURNS 'Lib.indexByte s c'; the world is as it was. (LAID: no walk: one application.) -/
theorem Tryz.stringslite_Index_one (s : ByteArray) (c : UInt8) (w : World) :
    Calls Tryz.prog 96 #[.string s, .string ⟨#[c]⟩] w fun e w' => e = .returned (.int .i64 (Lib.indexByte s.data.toList c)) ∧ w' = w := Any.stringslite_Index_one Tryz.lays219 s c w
open Go.RowKit Go.Lib in
/-- internal/stringslite.Index (what strings.Index calls) AT A substr OF WHATEVER LENGTH: IT RETURNS 'Lib.index s substr'; the world is as it was. 'm': what internal/bytealg.MaxLen holds: whatever. (LAID: no walk: one application.) -/
theorem Tryz.stringslite_Index (s sub : ByteArray) (m : Int) (w : World) (hs : s.size < 4294967281) (hm : w.cell? ⟨2, 0, none⟩ = some (.int .i64 m)) :
    Calls Tryz.prog 96 #[.string s, .string sub] w fun e w' => e = .returned (.int .i64 (Lib.index s.data.toList sub.data.toList)) ∧ w' = w := Any.stringslite_Index Tryz.lays219 s sub m w hs hm
def Tryz.lays143_ren : Go.Shelf.Ren := ⟨fun | 143 => 86 | 219 => 96 | 217 => 87 | 225 => 81 | 224 => 80 | 267 => 105 | 266 => 97 | 314 => 106 | n => n, fun | 9 => 9 | 3 => 3 | 4 => 4 | 5 => 5 | 46 => 118 | 146 => 160 | 51 => 23 | n => n, fun | 1 => 2 | n => n⟩
theorem Tryz.lays143 : Go.Proofs.Lays.n143 Tryz.prog Tryz.lays143_ren := {
  mixed := by kernel_rfl
  f143 := Tryz.func86.trans (congrArg some (by kernel_rfl))
  f217 := Tryz.func87.trans (congrArg some (by kernel_rfl))
  f219 := Tryz.func96.trans (congrArg some (by kernel_rfl))
  f224 := Tryz.func80.trans (congrArg some (by kernel_rfl))
  f225 := Tryz.func81.trans (congrArg some (by kernel_rfl))
  f266 := Tryz.func97.trans (congrArg some (by kernel_rfl))
  f267 := Tryz.func105.trans (congrArg some (by kernel_rfl))
  f314 := Tryz.func106.trans (congrArg some (by kernel_rfl))
  t3 := Tryz.underlying3
  a3 := Tryz.isAgg3
  z3 := Tryz.sizeOf3
  v3 := Tryz.zeroValue3
  t4 := Tryz.underlying4
  a4 := Tryz.isAgg4
  z4 := Tryz.sizeOf4
  v4 := Tryz.zeroValue4
  t5 := Tryz.underlying5
  a5 := Tryz.isAgg5
  z5 := Tryz.sizeOf5
  v5 := Tryz.zeroValue5
  t9 := Tryz.underlying9
  a9 := Tryz.isAgg9
  z9 := Tryz.sizeOf9
  v9 := Tryz.zeroValue9
  t46 := Tryz.underlying118
  a46 := Tryz.isAgg118
  z46 := Tryz.sizeOf118
  v46 := Tryz.zeroValue118
  t51 := Tryz.underlying23
  a51 := Tryz.isAgg23
  z51 := Tryz.sizeOf23
  v51 := Tryz.zeroValue23
  t146 := Tryz.underlying160
  a146 := Tryz.isAgg160
  z146 := Tryz.sizeOf160
  v146 := Tryz.zeroValue160
  g1 := by kernel_rfl }
open Go.RowKit Go.Lib in
/-- strings.Index: "Index returns the index of the first instance of substr in s, or -1 if substr is not present in s.": AT A substr OF ONE BYTE c: IT RETURNS 'Lib.indexByte s c'; the world is as it was. (LAID: no walk: one application.) -/
theorem Tryz.strings_Index_one (s : ByteArray) (c : UInt8) (w : World) :
    Calls Tryz.prog 86 #[.string s, .string ⟨#[c]⟩] w fun e w' => e = .returned (.int .i64 (Lib.indexByte s.data.toList c)) ∧ w' = w := Any.strings_Index_one Tryz.lays143 s c w
open Go.RowKit Go.Lib in
/-- strings.Index: "Index returns the index of the first instance of substr in s, or -1 if substr is not present in s.": IT RETURNS 'Lib.index s substr'; the world is as it was. (LAID: no walk: one application.) -/
theorem Tryz.strings_Index (s sub : ByteArray) (m : Int) (w : World) (hs : s.size < 4294967281) (hm : w.cell? ⟨2, 0, none⟩ = some (.int .i64 m)) :
    Calls Tryz.prog 86 #[.string s, .string sub] w fun e w' => e = .returned (.int .i64 (Lib.index s.data.toList sub.data.toList)) ∧ w' = w := Any.strings_Index Tryz.lays143 s sub m w hs hm
def Tryz.lays144_ren : Go.Shelf.Ren := ⟨fun | 144 => 76 | 143 => 86 | 219 => 96 | 217 => 87 | 225 => 81 | 224 => 80 | 267 => 105 | 266 => 97 | 314 => 106 | n => n, fun | 9 => 9 | 4 => 4 | 3 => 3 | 5 => 5 | 46 => 118 | 146 => 160 | 51 => 23 | n => n, fun | 1 => 2 | n => n⟩
theorem Tryz.lays144 : Go.Proofs.Lays.n144 Tryz.prog Tryz.lays144_ren := {
  mixed := by kernel_rfl
  f143 := Tryz.func86.trans (congrArg some (by kernel_rfl))
  f144 := Tryz.func76.trans (congrArg some (by kernel_rfl))
  f217 := Tryz.func87.trans (congrArg some (by kernel_rfl))
  f219 := Tryz.func96.trans (congrArg some (by kernel_rfl))
  f224 := Tryz.func80.trans (congrArg some (by kernel_rfl))
  f225 := Tryz.func81.trans (congrArg some (by kernel_rfl))
  f266 := Tryz.func97.trans (congrArg some (by kernel_rfl))
  f267 := Tryz.func105.trans (congrArg some (by kernel_rfl))
  f314 := Tryz.func106.trans (congrArg some (by kernel_rfl))
  t3 := Tryz.underlying3
  a3 := Tryz.isAgg3
  z3 := Tryz.sizeOf3
  v3 := Tryz.zeroValue3
  t4 := Tryz.underlying4
  a4 := Tryz.isAgg4
  z4 := Tryz.sizeOf4
  v4 := Tryz.zeroValue4
  t5 := Tryz.underlying5
  a5 := Tryz.isAgg5
  z5 := Tryz.sizeOf5
  v5 := Tryz.zeroValue5
  t9 := Tryz.underlying9
  a9 := Tryz.isAgg9
  z9 := Tryz.sizeOf9
  v9 := Tryz.zeroValue9
  t46 := Tryz.underlying118
  a46 := Tryz.isAgg118
  z46 := Tryz.sizeOf118
  v46 := Tryz.zeroValue118
  t51 := Tryz.underlying23
  a51 := Tryz.isAgg23
  z51 := Tryz.sizeOf23
  v51 := Tryz.zeroValue23
  t146 := Tryz.underlying160
  a146 := Tryz.isAgg160
  z146 := Tryz.sizeOf160
  v146 := Tryz.zeroValue160
  g1 := by kernel_rfl }
open Go.RowKit Go.Lib in
/-- strings.Contains: "Contains reports whether substr is within s.": AT A substr OF ONE BYTE c: IT RETURNS 'decide (0 ≤ Lib.indexByte s c)'; the world is as it was. (LAID: no walk: one application.) -/
theorem Tryz.strings_Contains_one (s : ByteArray) (c : UInt8) (w : World) :
    Calls Tryz.prog 76 #[.string s, .string ⟨#[c]⟩] w fun e w' => e = .returned (.bool (decide (0 ≤ Lib.indexByte s.data.toList c))) ∧ w' = w := Any.strings_Contains_one Tryz.lays144 s c w
open Go.RowKit Go.Lib in
/-- strings.Contains: "Contains reports whether substr is within s.": IT RETURNS 'Lib.contains s substr'; the world is as it was. (LAID: no walk: one application.) -/
theorem Tryz.strings_Contains (s sub : ByteArray) (m : Int) (w : World) (hs : s.size < 4294967281) (hm : w.cell? ⟨2, 0, none⟩ = some (.int .i64 m)) :
    Calls Tryz.prog 76 #[.string s, .string sub] w fun e w' => e = .returned (.bool (Lib.contains s.data.toList sub.data.toList)) ∧ w' = w := Any.strings_Contains Tryz.lays144 s sub m w hs hm
def Tryz.laysM219_ren : Go.Shelf.Ren := ⟨fun | 219 => 96 | 217 => 87 | 225 => 81 | 224 => 80 | 267 => 105 | 266 => 97 | 314 => 106 | n => n, fun | 9 => 9 | 3 => 3 | 4 => 4 | 5 => 5 | 46 => 118 | 146 => 160 | 51 => 23 | n => n, fun | 1 => 2 | n => n⟩
theorem Tryz.laysM219 : Go.Proofs.LaysM.n219 Tryz.prog Tryz.laysM219_ren := {
  mixed := by kernel_rfl
  f217 := Tryz.func87.trans (congrArg some (by kernel_rfl))
  f219 := Tryz.func96.trans (congrArg some (by kernel_rfl))
  f224 := Tryz.func80.trans (congrArg some (by kernel_rfl))
  f225 := Tryz.func81.trans (congrArg some (by kernel_rfl))
  f266 := Tryz.func97.trans (congrArg some (by kernel_rfl))
  f267 := Tryz.func105.trans (congrArg some (by kernel_rfl))
  f314 := Tryz.func106.trans (congrArg some (by kernel_rfl))
  t3 := Tryz.underlying3
  a3 := Tryz.isAgg3
  z3 := Tryz.sizeOf3
  v3 := Tryz.zeroValue3
  t4 := Tryz.underlying4
  a4 := Tryz.isAgg4
  z4 := Tryz.sizeOf4
  v4 := Tryz.zeroValue4
  t5 := Tryz.underlying5
  a5 := Tryz.isAgg5
  z5 := Tryz.sizeOf5
  v5 := Tryz.zeroValue5
  t9 := Tryz.underlying9
  a9 := Tryz.isAgg9
  z9 := Tryz.sizeOf9
  v9 := Tryz.zeroValue9
  t46 := Tryz.underlying118
  a46 := Tryz.isAgg118
  z46 := Tryz.sizeOf118
  v46 := Tryz.zeroValue118
  t51 := Tryz.underlying23
  a51 := Tryz.isAgg23
  z51 := Tryz.sizeOf23
  v51 := Tryz.zeroValue23
  t146 := Tryz.underlying160
  a146 := Tryz.isAgg160
  z146 := Tryz.sizeOf160
  v146 := Tryz.zeroValue160
  g1 := by kernel_rfl
  i3 := by kernel_rfl
  i4 := by kernel_rfl
  i5 := by kernel_rfl
  i9 := by kernel_rfl
  i46 := by kernel_rfl
  i51 := by kernel_rfl
  i146 := by kernel_rfl
  m1 := by kernel_rfl
  s1_3 := fun w h => Go.Proofs.cell_of_shapedOpen_int (zero := #[.int .i64 0]) (t := 3) h (of_decide_eq_true (by kernel_rfl)) (by kernel_rfl) rfl (by kernel_rfl) (by kernel_rfl) Tryz.underlying3 }
open Go.RowKit Go.Lib in
theorem Tryz.stringslite_Index_shaped (s sub : ByteArray) (w : World) (h : w.ShapedOpen Tryz.prog) (hs : s.size < 4294967281) :
    Calls Tryz.prog 96 #[.string s, .string sub] w fun e w' => e = .returned (.int .i64 (Lib.index s.data.toList sub.data.toList)) ∧ w' = w := Any.stringslite_Index_shaped Tryz.laysM219 s sub w h hs
def Tryz.laysM143_ren : Go.Shelf.Ren := ⟨fun | 143 => 86 | 219 => 96 | 217 => 87 | 225 => 81 | 224 => 80 | 267 => 105 | 266 => 97 | 314 => 106 | n => n, fun | 9 => 9 | 3 => 3 | 4 => 4 | 5 => 5 | 46 => 118 | 146 => 160 | 51 => 23 | n => n, fun | 1 => 2 | n => n⟩
theorem Tryz.laysM143 : Go.Proofs.LaysM.n143 Tryz.prog Tryz.laysM143_ren := {
  mixed := by kernel_rfl
  f143 := Tryz.func86.trans (congrArg some (by kernel_rfl))
  f217 := Tryz.func87.trans (congrArg some (by kernel_rfl))
  f219 := Tryz.func96.trans (congrArg some (by kernel_rfl))
  f224 := Tryz.func80.trans (congrArg some (by kernel_rfl))
  f225 := Tryz.func81.trans (congrArg some (by kernel_rfl))
  f266 := Tryz.func97.trans (congrArg some (by kernel_rfl))
  f267 := Tryz.func105.trans (congrArg some (by kernel_rfl))
  f314 := Tryz.func106.trans (congrArg some (by kernel_rfl))
  t3 := Tryz.underlying3
  a3 := Tryz.isAgg3
  z3 := Tryz.sizeOf3
  v3 := Tryz.zeroValue3
  t4 := Tryz.underlying4
  a4 := Tryz.isAgg4
  z4 := Tryz.sizeOf4
  v4 := Tryz.zeroValue4
  t5 := Tryz.underlying5
  a5 := Tryz.isAgg5
  z5 := Tryz.sizeOf5
  v5 := Tryz.zeroValue5
  t9 := Tryz.underlying9
  a9 := Tryz.isAgg9
  z9 := Tryz.sizeOf9
  v9 := Tryz.zeroValue9
  t46 := Tryz.underlying118
  a46 := Tryz.isAgg118
  z46 := Tryz.sizeOf118
  v46 := Tryz.zeroValue118
  t51 := Tryz.underlying23
  a51 := Tryz.isAgg23
  z51 := Tryz.sizeOf23
  v51 := Tryz.zeroValue23
  t146 := Tryz.underlying160
  a146 := Tryz.isAgg160
  z146 := Tryz.sizeOf160
  v146 := Tryz.zeroValue160
  g1 := by kernel_rfl
  i3 := by kernel_rfl
  i4 := by kernel_rfl
  i5 := by kernel_rfl
  i9 := by kernel_rfl
  i46 := by kernel_rfl
  i51 := by kernel_rfl
  i146 := by kernel_rfl
  m1 := by kernel_rfl
  s1_3 := fun w h => Go.Proofs.cell_of_shapedOpen_int (zero := #[.int .i64 0]) (t := 3) h (of_decide_eq_true (by kernel_rfl)) (by kernel_rfl) rfl (by kernel_rfl) (by kernel_rfl) Tryz.underlying3 }
open Go.RowKit Go.Lib in
theorem Tryz.strings_Index_shaped (s sub : ByteArray) (w : World) (h : w.ShapedOpen Tryz.prog) (hs : s.size < 4294967281) :
    Calls Tryz.prog 86 #[.string s, .string sub] w fun e w' => e = .returned (.int .i64 (Lib.index s.data.toList sub.data.toList)) ∧ w' = w := Any.strings_Index_shaped Tryz.laysM143 s sub w h hs
def Tryz.laysM144_ren : Go.Shelf.Ren := ⟨fun | 144 => 76 | 143 => 86 | 219 => 96 | 217 => 87 | 225 => 81 | 224 => 80 | 267 => 105 | 266 => 97 | 314 => 106 | n => n, fun | 9 => 9 | 4 => 4 | 3 => 3 | 5 => 5 | 46 => 118 | 146 => 160 | 51 => 23 | n => n, fun | 1 => 2 | n => n⟩
theorem Tryz.laysM144 : Go.Proofs.LaysM.n144 Tryz.prog Tryz.laysM144_ren := {
  mixed := by kernel_rfl
  f143 := Tryz.func86.trans (congrArg some (by kernel_rfl))
  f144 := Tryz.func76.trans (congrArg some (by kernel_rfl))
  f217 := Tryz.func87.trans (congrArg some (by kernel_rfl))
  f219 := Tryz.func96.trans (congrArg some (by kernel_rfl))
  f224 := Tryz.func80.trans (congrArg some (by kernel_rfl))
  f225 := Tryz.func81.trans (congrArg some (by kernel_rfl))
  f266 := Tryz.func97.trans (congrArg some (by kernel_rfl))
  f267 := Tryz.func105.trans (congrArg some (by kernel_rfl))
  f314 := Tryz.func106.trans (congrArg some (by kernel_rfl))
  t3 := Tryz.underlying3
  a3 := Tryz.isAgg3
  z3 := Tryz.sizeOf3
  v3 := Tryz.zeroValue3
  t4 := Tryz.underlying4
  a4 := Tryz.isAgg4
  z4 := Tryz.sizeOf4
  v4 := Tryz.zeroValue4
  t5 := Tryz.underlying5
  a5 := Tryz.isAgg5
  z5 := Tryz.sizeOf5
  v5 := Tryz.zeroValue5
  t9 := Tryz.underlying9
  a9 := Tryz.isAgg9
  z9 := Tryz.sizeOf9
  v9 := Tryz.zeroValue9
  t46 := Tryz.underlying118
  a46 := Tryz.isAgg118
  z46 := Tryz.sizeOf118
  v46 := Tryz.zeroValue118
  t51 := Tryz.underlying23
  a51 := Tryz.isAgg23
  z51 := Tryz.sizeOf23
  v51 := Tryz.zeroValue23
  t146 := Tryz.underlying160
  a146 := Tryz.isAgg160
  z146 := Tryz.sizeOf160
  v146 := Tryz.zeroValue160
  g1 := by kernel_rfl
  i3 := by kernel_rfl
  i4 := by kernel_rfl
  i5 := by kernel_rfl
  i9 := by kernel_rfl
  i46 := by kernel_rfl
  i51 := by kernel_rfl
  i146 := by kernel_rfl
  m1 := by kernel_rfl
  s1_3 := fun w h => Go.Proofs.cell_of_shapedOpen_int (zero := #[.int .i64 0]) (t := 3) h (of_decide_eq_true (by kernel_rfl)) (by kernel_rfl) rfl (by kernel_rfl) (by kernel_rfl) Tryz.underlying3 }
open Go.RowKit Go.Lib in
theorem Tryz.strings_Contains_shaped (s sub : ByteArray) (w : World) (h : w.ShapedOpen Tryz.prog) (hs : s.size < 4294967281) :
    Calls Tryz.prog 76 #[.string s, .string sub] w fun e w' => e = .returned (.bool (Lib.contains s.data.toList sub.data.toList)) ∧ w' = w := Any.strings_Contains_shaped Tryz.laysM144 s sub w h hs
def Tryz.lays206_ren : Go.Shelf.Ren := ⟨fun | 206 => 59 | n => n, fun | 9 => 9 | 4 => 4 | 3 => 3 | n => n, fun | n => n⟩
theorem Tryz.lays206 : Go.Proofs.Lays.n206 Tryz.prog Tryz.lays206_ren := {
  mixed := by kernel_rfl
  f206 := Tryz.func59.trans (congrArg some (by kernel_rfl))
  t3 := Tryz.underlying3
  a3 := Tryz.isAgg3
  z3 := Tryz.sizeOf3
  v3 := Tryz.zeroValue3
  t4 := Tryz.underlying4
  a4 := Tryz.isAgg4
  z4 := Tryz.sizeOf4
  v4 := Tryz.zeroValue4
  t9 := Tryz.underlying9
  a9 := Tryz.isAgg9
  z9 := Tryz.sizeOf9
  v9 := Tryz.zeroValue9 }
open Go.RowKit Go.Lib in
/-- internal/stringslite.HasPrefix (what strings.HasPrefix calls). (LAID: no walk: one application.) -/
theorem Tryz.stringslite_HasPrefix (s p : ByteArray) (w : World) :
    Calls Tryz.prog 59 #[.string s, .string p] w fun e w' => e = .returned (.bool (Lib.hasPrefix s.data.toList p.data.toList)) ∧ w' = w := Any.stringslite_HasPrefix Tryz.lays206 s p w
def Tryz.lays99_ren : Go.Shelf.Ren := ⟨fun | 99 => 44 | 206 => 59 | n => n, fun | 9 => 9 | 4 => 4 | 3 => 3 | n => n, fun | n => n⟩
theorem Tryz.lays99 : Go.Proofs.Lays.n99 Tryz.prog Tryz.lays99_ren := {
  mixed := by kernel_rfl
  f99 := Tryz.func44.trans (congrArg some (by kernel_rfl))
  f206 := Tryz.func59.trans (congrArg some (by kernel_rfl))
  t3 := Tryz.underlying3
  a3 := Tryz.isAgg3
  z3 := Tryz.sizeOf3
  v3 := Tryz.zeroValue3
  t4 := Tryz.underlying4
  a4 := Tryz.isAgg4
  z4 := Tryz.sizeOf4
  v4 := Tryz.zeroValue4
  t9 := Tryz.underlying9
  a9 := Tryz.isAgg9
  z9 := Tryz.sizeOf9
  v9 := Tryz.zeroValue9 }
open Go.RowKit Go.Lib in
/-- strings.HasPrefix: "HasPrefix reports whether the string s begins with prefix.": IT RETURNS 'Lib.hasPrefix s prefix'; the world is as it was. (LAID: no walk: one application.) -/
theorem Tryz.strings_HasPrefix (s p : ByteArray) (w : World) :
    Calls Tryz.prog 44 #[.string s, .string p] w fun e w' => e = .returned (.bool (Lib.hasPrefix s.data.toList p.data.toList)) ∧ w' = w := Any.strings_HasPrefix Tryz.lays99 s p w
def Tryz.lays197_ren : Go.Shelf.Ren := ⟨fun | 197 => 70 | 260 => 77 | n => n, fun | 9 => 9 | 21 => 21 | 3 => 3 | 4 => 4 | 5 => 5 | 105 => 129 | 119 => 146 | 0 => 0 | 46 => 118 | 139 => 149 | 138 => 148 | n => n, fun | 3 => 0 | 4 => 1 | n => n⟩
theorem Tryz.lays197 : Go.Proofs.Lays.n197 Tryz.prog Tryz.lays197_ren := {
  mixed := by kernel_rfl
  f197 := Tryz.func70.trans (congrArg some (by kernel_rfl))
  f260 := Tryz.func77.trans (congrArg some (by kernel_rfl))
  t0 := Tryz.underlying0
  a0 := Tryz.isAgg0
  z0 := Tryz.sizeOf0
  v0 := Tryz.zeroValue0
  t3 := Tryz.underlying3
  a3 := Tryz.isAgg3
  z3 := Tryz.sizeOf3
  v3 := Tryz.zeroValue3
  t4 := Tryz.underlying4
  a4 := Tryz.isAgg4
  z4 := Tryz.sizeOf4
  v4 := Tryz.zeroValue4
  t5 := Tryz.underlying5
  a5 := Tryz.isAgg5
  z5 := Tryz.sizeOf5
  v5 := Tryz.zeroValue5
  t9 := Tryz.underlying9
  a9 := Tryz.isAgg9
  z9 := Tryz.sizeOf9
  v9 := Tryz.zeroValue9
  t21 := Tryz.underlying21
  a21 := Tryz.isAgg21
  z21 := Tryz.sizeOf21
  v21 := Tryz.zeroValue21
  t46 := Tryz.underlying118
  a46 := Tryz.isAgg118
  z46 := Tryz.sizeOf118
  v46 := Tryz.zeroValue118
  t105 := Tryz.underlying129
  a105 := Tryz.isAgg129
  z105 := Tryz.sizeOf129
  v105 := Tryz.zeroValue129
  t119 := Tryz.underlying146
  a119 := Tryz.isAgg146
  z119 := Tryz.sizeOf146
  t138 := Tryz.underlying148
  a138 := Tryz.isAgg148
  z138 := Tryz.sizeOf148
  v138 := Tryz.zeroValue148
  t139 := Tryz.underlying149
  a139 := Tryz.isAgg149
  z139 := Tryz.sizeOf149
  v139 := Tryz.zeroValue149
  g3 := by kernel_rfl
  g4 := by kernel_rfl }
open Go.RowKit Go.Lib in
/-- unicode/utf8.DecodeRuneInString: "DecodeRuneInString is like DecodeRune but its input is a string.": ("DecodeRune unpacks the first UTF-8 encoding in p and returns the rune and its width in bytes."): WHERE s BEGINS WITH AN ASCII BYTE x: (x, 1). (LAID: no walk: one application.) -/
theorem Tryz.utf8_DecodeRuneInString_ascii (s : ByteArray) (x : UInt8) (w : World) (h0 : s.data.toList[0]? = some x) (hx : x.toNat < 128) :
    Calls Tryz.prog 70 #[.string s] w fun e w' => e = .returned (.tuple #[.int .i32 x.toNat, .int .i64 1]) ∧ w' = w := Any.utf8_DecodeRuneInString_ascii Tryz.lays197 s x w h0 hx
def Tryz.lays152_ren : Go.Shelf.Ren := ⟨fun | 152 => 71 | 137 => 78 | 119 => 79 | 224 => 80 | 225 => 81 | 217 => 87 | 266 => 97 | n => n, fun | 9 => 9 | 21 => 21 | 3 => 3 | 4 => 4 | 5 => 5 | 0 => 0 | 46 => 118 | n => n, fun | n => n⟩
theorem Tryz.lays152 : Go.Proofs.Lays.n152 Tryz.prog Tryz.lays152_ren := {
  mixed := by kernel_rfl
  f119 := Tryz.func79.trans (congrArg some (by kernel_rfl))
  f137 := Tryz.func78.trans (congrArg some (by kernel_rfl))
  f152 := Tryz.func71.trans (congrArg some (by kernel_rfl))
  f217 := Tryz.func87.trans (congrArg some (by kernel_rfl))
  f224 := Tryz.func80.trans (congrArg some (by kernel_rfl))
  f225 := Tryz.func81.trans (congrArg some (by kernel_rfl))
  f266 := Tryz.func97.trans (congrArg some (by kernel_rfl))
  t0 := Tryz.underlying0
  a0 := Tryz.isAgg0
  z0 := Tryz.sizeOf0
  v0 := Tryz.zeroValue0
  t3 := Tryz.underlying3
  a3 := Tryz.isAgg3
  z3 := Tryz.sizeOf3
  v3 := Tryz.zeroValue3
  t4 := Tryz.underlying4
  a4 := Tryz.isAgg4
  z4 := Tryz.sizeOf4
  v4 := Tryz.zeroValue4
  t5 := Tryz.underlying5
  a5 := Tryz.isAgg5
  z5 := Tryz.sizeOf5
  v5 := Tryz.zeroValue5
  t9 := Tryz.underlying9
  a9 := Tryz.isAgg9
  z9 := Tryz.sizeOf9
  v9 := Tryz.zeroValue9
  t21 := Tryz.underlying21
  a21 := Tryz.isAgg21
  z21 := Tryz.sizeOf21
  v21 := Tryz.zeroValue21
  t46 := Tryz.underlying118
  a46 := Tryz.isAgg118
  z46 := Tryz.sizeOf118
  v46 := Tryz.zeroValue118 }
open Go.RowKit Go.Lib in
theorem Tryz.strings_IndexRune_ascii (s : ByteArray) (r : Int) (w : World) (h0 : 0 ≤ r) (h1 : r < 128) :
    Calls Tryz.prog 71 #[.string s, .int .i32 r] w fun e w' => e = .returned (.int .i64 (Lib.indexByte s.data.toList r.toNat.toUInt8)) ∧ w' = w := Any.strings_IndexRune_ascii Tryz.lays152 s r w h0 h1
def Tryz.lays151_ren : Go.Shelf.Ren := ⟨fun | 151 => 63 | 152 => 71 | 137 => 78 | 119 => 79 | 224 => 80 | 225 => 81 | 217 => 87 | 266 => 97 | n => n, fun | 9 => 9 | 21 => 21 | 4 => 4 | 3 => 3 | 5 => 5 | 0 => 0 | 46 => 118 | n => n, fun | n => n⟩
theorem Tryz.lays151 : Go.Proofs.Lays.n151 Tryz.prog Tryz.lays151_ren := {
  mixed := by kernel_rfl
  f119 := Tryz.func79.trans (congrArg some (by kernel_rfl))
  f137 := Tryz.func78.trans (congrArg some (by kernel_rfl))
  f151 := Tryz.func63.trans (congrArg some (by kernel_rfl))
  f152 := Tryz.func71.trans (congrArg some (by kernel_rfl))
  f217 := Tryz.func87.trans (congrArg some (by kernel_rfl))
  f224 := Tryz.func80.trans (congrArg some (by kernel_rfl))
  f225 := Tryz.func81.trans (congrArg some (by kernel_rfl))
  f266 := Tryz.func97.trans (congrArg some (by kernel_rfl))
  t0 := Tryz.underlying0
  a0 := Tryz.isAgg0
  z0 := Tryz.sizeOf0
  v0 := Tryz.zeroValue0
  t3 := Tryz.underlying3
  a3 := Tryz.isAgg3
  z3 := Tryz.sizeOf3
  v3 := Tryz.zeroValue3
  t4 := Tryz.underlying4
  a4 := Tryz.isAgg4
  z4 := Tryz.sizeOf4
  v4 := Tryz.zeroValue4
  t5 := Tryz.underlying5
  a5 := Tryz.isAgg5
  z5 := Tryz.sizeOf5
  v5 := Tryz.zeroValue5
  t9 := Tryz.underlying9
  a9 := Tryz.isAgg9
  z9 := Tryz.sizeOf9
  v9 := Tryz.zeroValue9
  t21 := Tryz.underlying21
  a21 := Tryz.isAgg21
  z21 := Tryz.sizeOf21
  v21 := Tryz.zeroValue21
  t46 := Tryz.underlying118
  a46 := Tryz.isAgg118
  z46 := Tryz.sizeOf118
  v46 := Tryz.zeroValue118 }
open Go.RowKit Go.Lib in
theorem Tryz.strings_ContainsRune_ascii (s : ByteArray) (r : Int) (w : World) (h0 : 0 ≤ r) (h1 : r < 128) :
    Calls Tryz.prog 63 #[.string s, .int .i32 r] w fun e w' => e = .returned (.bool (decide (0 ≤ Lib.indexByte s.data.toList r.toNat.toUInt8))) ∧ w' = w := Any.strings_ContainsRune_ascii Tryz.lays151 s r w h0 h1
def Tryz.lays227_ren : Go.Shelf.Ren := ⟨fun | 227 => 49 | n => n, fun | 9 => 9 | 116 => 113 | 4 => 4 | 0 => 0 | 3 => 3 | 5 => 5 | n => n, fun | n => n⟩
theorem Tryz.lays227 : Go.Proofs.Lays.n227 Tryz.prog Tryz.lays227_ren := {
  mixed := by kernel_rfl
  f227 := Tryz.func49.trans (congrArg some (by kernel_rfl))
  t0 := Tryz.underlying0
  a0 := Tryz.isAgg0
  z0 := Tryz.sizeOf0
  v0 := Tryz.zeroValue0
  t3 := Tryz.underlying3
  a3 := Tryz.isAgg3
  z3 := Tryz.sizeOf3
  v3 := Tryz.zeroValue3
  t4 := Tryz.underlying4
  a4 := Tryz.isAgg4
  z4 := Tryz.sizeOf4
  v4 := Tryz.zeroValue4
  t5 := Tryz.underlying5
  a5 := Tryz.isAgg5
  z5 := Tryz.sizeOf5
  v5 := Tryz.zeroValue5
  t9 := Tryz.underlying9
  a9 := Tryz.isAgg9
  z9 := Tryz.sizeOf9
  v9 := Tryz.zeroValue9
  t116 := Tryz.underlying113
  a116 := Tryz.isAgg113
  z116 := Tryz.sizeOf113 }
open Go.RowKit Go.Lib in
theorem Tryz.strings_makeASCIISet (hv116 : ∀ w, (zeroValue 113).run Tryz.prog w = .ok (.agg (Array.replicate 256 (.bool false))) w) (chars : ByteArray) (w : World) (hs : chars.size < 4294967281) (hascii : ∀ (j : Nat) b, chars.data.toList[j]? = some b → b.toNat < 128) :
    Calls Tryz.prog 49 #[.string chars] w fun e w' => e = .returned (.tuple #[.agg (Lib.setCells chars.data.toList), .bool true]) ∧ w' = w.alloc (.cells (Lib.setCells chars.data.toList) 113) := Any.strings_makeASCIISet Tryz.lays227 hv116 (by kernel_rfl) chars w hs hascii
def Tryz.lays228_ren : Go.Shelf.Ren := ⟨fun | 228 => 61 | n => n, fun | 124 => 117 | 5 => 5 | 4 => 4 | 0 => 0 | 116 => 113 | n => n, fun | n => n⟩
theorem Tryz.lays228 : Go.Proofs.Lays.n228 Tryz.prog Tryz.lays228_ren := {
  mixed := by kernel_rfl
  f228 := Tryz.func61.trans (congrArg some (by kernel_rfl))
  t0 := Tryz.underlying0
  a0 := Tryz.isAgg0
  z0 := Tryz.sizeOf0
  v0 := Tryz.zeroValue0
  t4 := Tryz.underlying4
  a4 := Tryz.isAgg4
  z4 := Tryz.sizeOf4
  v4 := Tryz.zeroValue4
  t5 := Tryz.underlying5
  a5 := Tryz.isAgg5
  z5 := Tryz.sizeOf5
  v5 := Tryz.zeroValue5
  t116 := Tryz.underlying113
  a116 := Tryz.isAgg113
  z116 := Tryz.sizeOf113
  t124 := Tryz.underlying117
  a124 := Tryz.isAgg117
  z124 := Tryz.sizeOf117
  v124 := Tryz.zeroValue117 }
open Go.RowKit Go.Lib in
/-- '(as *asciiSet) contains(c)': 'as[c]': the set lies at block b, whole. (LAID: no walk: one application.) -/
theorem Tryz.asciiSet_contains (b : Nat) (x : UInt8) (v : Bool) (w : World) (hc : w.cell? ⟨b, x.toNat, none⟩ = some (.bool v)) :
    Calls Tryz.prog 61 #[.pointer (some ⟨b, 0, none⟩), .int .u8 x.toNat] w fun e w' => e = .returned (.bool v) ∧ w' = w := Any.asciiSet_contains Tryz.lays228 b x v w hc
def Tryz.lays260_ren : Go.Shelf.Ren := ⟨fun | 260 => 77 | n => n, fun | 9 => 9 | 21 => 21 | 3 => 3 | 4 => 4 | 5 => 5 | 119 => 146 | 0 => 0 | 46 => 118 | 139 => 149 | 138 => 148 | n => n, fun | 3 => 0 | 4 => 1 | n => n⟩
theorem Tryz.lays260 : Go.Proofs.Lays.n260 Tryz.prog Tryz.lays260_ren := {
  mixed := by kernel_rfl
  f260 := Tryz.func77.trans (congrArg some (by kernel_rfl))
  t0 := Tryz.underlying0
  a0 := Tryz.isAgg0
  z0 := Tryz.sizeOf0
  v0 := Tryz.zeroValue0
  t3 := Tryz.underlying3
  a3 := Tryz.isAgg3
  z3 := Tryz.sizeOf3
  v3 := Tryz.zeroValue3
  t4 := Tryz.underlying4
  a4 := Tryz.isAgg4
  z4 := Tryz.sizeOf4
  v4 := Tryz.zeroValue4
  t5 := Tryz.underlying5
  a5 := Tryz.isAgg5
  z5 := Tryz.sizeOf5
  v5 := Tryz.zeroValue5
  t9 := Tryz.underlying9
  a9 := Tryz.isAgg9
  z9 := Tryz.sizeOf9
  v9 := Tryz.zeroValue9
  t21 := Tryz.underlying21
  a21 := Tryz.isAgg21
  z21 := Tryz.sizeOf21
  v21 := Tryz.zeroValue21
  t46 := Tryz.underlying118
  a46 := Tryz.isAgg118
  z46 := Tryz.sizeOf118
  v46 := Tryz.zeroValue118
  t119 := Tryz.underlying146
  a119 := Tryz.isAgg146
  z119 := Tryz.sizeOf146
  t138 := Tryz.underlying148
  a138 := Tryz.isAgg148
  z138 := Tryz.sizeOf148
  v138 := Tryz.zeroValue148
  t139 := Tryz.underlying149
  a139 := Tryz.isAgg149
  z139 := Tryz.sizeOf149
  v139 := Tryz.zeroValue149
  g3 := by kernel_rfl
  g4 := by kernel_rfl }
open Go.RowKit Go.Lib in
theorem Tryz.utf8_decodeRuneInStringSlow (s : ByteArray) (w : World) (hT : Lib.Utf8Tabs 0 1 w) :
    Calls Tryz.prog 77 #[.string s] w fun e w' => e = .returned (.tuple #[.int .i32 (Lib.decodeGo s).1, .int .i64 (Lib.decodeGo s).2]) ∧ Below w.heap.size w w' := Any.utf8_decodeRuneInStringSlow Tryz.lays260 s w hT
open Go.RowKit Go.Lib in
/-- **unicode/utf8.DecodeRuneInString AT EVERY STRING.** (LAID: no walk: one application.) -/
theorem Tryz.utf8_DecodeRuneInString (s : ByteArray) (w : World) (hT : Lib.Utf8Tabs 0 1 w) :
    Calls Tryz.prog 70 #[.string s] w fun e w' => e = .returned (.tuple #[.int .i32 (Lib.decodeGo s).1, .int .i64 (Lib.decodeGo s).2]) ∧ Below w.heap.size w w' := Any.utf8_DecodeRuneInString Tryz.lays197 s w hT
def Tryz.lays271_ren : Go.Shelf.Ren := ⟨fun | 271 => 62 | 120 => 69 | 197 => 70 | 260 => 77 | n => n, fun | 9 => 9 | 21 => 21 | 3 => 3 | 4 => 4 | 5 => 5 | 105 => 129 | 119 => 146 | 0 => 0 | 46 => 118 | 139 => 149 | 138 => 148 | n => n, fun | 3 => 0 | 4 => 1 | n => n⟩
theorem Tryz.lays271 : Go.Proofs.Lays.n271 Tryz.prog Tryz.lays271_ren := {
  mixed := by kernel_rfl
  f120 := Tryz.func69.trans (congrArg some (by kernel_rfl))
  f197 := Tryz.func70.trans (congrArg some (by kernel_rfl))
  f260 := Tryz.func77.trans (congrArg some (by kernel_rfl))
  f271 := Tryz.func62.trans (congrArg some (by kernel_rfl))
  t0 := Tryz.underlying0
  a0 := Tryz.isAgg0
  z0 := Tryz.sizeOf0
  v0 := Tryz.zeroValue0
  t3 := Tryz.underlying3
  a3 := Tryz.isAgg3
  z3 := Tryz.sizeOf3
  v3 := Tryz.zeroValue3
  t4 := Tryz.underlying4
  a4 := Tryz.isAgg4
  z4 := Tryz.sizeOf4
  v4 := Tryz.zeroValue4
  t5 := Tryz.underlying5
  a5 := Tryz.isAgg5
  z5 := Tryz.sizeOf5
  v5 := Tryz.zeroValue5
  t9 := Tryz.underlying9
  a9 := Tryz.isAgg9
  z9 := Tryz.sizeOf9
  v9 := Tryz.zeroValue9
  t21 := Tryz.underlying21
  a21 := Tryz.isAgg21
  z21 := Tryz.sizeOf21
  v21 := Tryz.zeroValue21
  t46 := Tryz.underlying118
  a46 := Tryz.isAgg118
  z46 := Tryz.sizeOf118
  v46 := Tryz.zeroValue118
  t105 := Tryz.underlying129
  a105 := Tryz.isAgg129
  z105 := Tryz.sizeOf129
  v105 := Tryz.zeroValue129
  t119 := Tryz.underlying146
  a119 := Tryz.isAgg146
  z119 := Tryz.sizeOf146
  t138 := Tryz.underlying148
  a138 := Tryz.isAgg148
  z138 := Tryz.sizeOf148
  v138 := Tryz.zeroValue148
  t139 := Tryz.underlying149
  a139 := Tryz.isAgg149
  z139 := Tryz.sizeOf149
  v139 := Tryz.zeroValue149
  g3 := by kernel_rfl
  g4 := by kernel_rfl }
open Go.RowKit Go.Lib in
/-- **unicode/utf8.DecodeLastRuneInString AT EVERY STRING.** (LAID: no walk: one application.) -/
theorem Tryz.utf8_DecodeLastRuneInString (s : ByteArray) (w : World) (hs : s.size ≤ 9223372036854775807) (hT : Lib.Utf8Tabs 0 1 w) :
    Calls Tryz.prog 62 #[.string s] w fun e w' => e = .returned (.tuple #[.int .i32 (Lib.decodeLastL s.data.toList).1, .int .i64 (Lib.decodeLastL s.data.toList).2]) ∧ Below w.heap.size w w' := Any.utf8_DecodeLastRuneInString Tryz.lays271 s w hs hT
end Go.Proofs
end

section
/- strings.Contains at one byte. -/
namespace Go.Proofs.YtnngbhdofgodiaaGreatDoor.Z
open Go.RowKit Go.Proofs.YtnngbhdofgodiaaGreatDoorW.PrintWords Go.Proofs.YtnngbhdofgodiaaGreatDoorW.PrintLast
set_option linter.unusedVariables false
def strings_Contains.f (a0 a1 : ByteArray) : Option Bool := if h : a1.size = 1 then some (decide (0 ≤ Lib.indexByte a0.data.toList (a1.data[0]'(by have : a1.data.size = 1 := h; omega)))) else none
theorem strings_Contains.calls (a0 a1 : ByteArray) (r : Bool) (w : World) (h : strings_Contains.f a0 a1 = some r) :
    Calls Tryz.prog 76 #[.string a0, .string a1] w fun e w' => e = .returned (.bool r) ∧ Drawn0 w w' := by
  unfold strings_Contains.f at h
  split at h
  case isFalse => cases h
  case isTrue hs =>
    obtain ⟨d⟩ := a1
    obtain ⟨l⟩ := d
    match l, hs with
    | [c], _ =>
      obtain rfl := Option.some.inj h
      exact (Tryz.strings_Contains_one a0 c w).mono fun e w' ⟨he, hw⟩ => ⟨he, hw ▸ Drawn0.refl _⟩
    | [], hs => exact absurd hs (by decide)
    | _ :: _ :: _, hs => exact absurd hs (by simp [ByteArray.size])
end Go.Proofs.YtnngbhdofgodiaaGreatDoor.Z
end

section
-- Printed by a program of this session (mp.py) out of the translation.
namespace Go.Proofs.YtnngbhdofgodiaaGreatDoor.Z
open Go.RowKit Go.Proofs.YtnngbhdofgodiaaGreatDoorW.PrintWords Go.Proofs.YtnngbhdofgodiaaGreatDoorW.PrintLast Go.Proofs.YtnngbhdofgodiaaGreatDoorW.PrintMore
attribute [local go_sem] max2_int min2_int max_two min_two max_three min_three max_four min_four   -- for this text's walks alone
set_option linter.unusedVariables false
set_option linter.unusedSimpArgs false

/-! ### path_Name: function 67 -/
def path_Name.f (a0 : ByteArray) : Option (Bool) := if a0.toList = ([] : List UInt8) then (some false) else (if (a0.size : Int) ≤ 24 then ((strings_Contains.f a0 (⟨#[47]⟩ : ByteArray)).bind fun t145 => (if t145 = true then (some false) else ((strings_Contains.f a0 (⟨#[0]⟩ : ByteArray)).bind fun t146 => (if t146 = true then (some false) else (if a0.toList = ([46] : List UInt8) then (some false) else (some (a0.toList != ([46, 46] : List UInt8)))))))) else (some false))
set_option maxHeartbeats 8000000 in
set_option maxRecDepth 100000 in
theorem path_Name.calls (a0 : ByteArray) (r : Bool) (w : World) (h : path_Name.f a0 = some r) :
    Calls Tryz.prog 67 #[.string a0] w fun e w' => e = .returned (.bool r) ∧ Drawn0 w w' := by
  have H : (if a0.toList = ([] : List UInt8) then (some false) else (if (a0.size : Int) ≤ 24 then ((strings_Contains.f a0 (⟨#[47]⟩ : ByteArray)).bind fun t145 => (if t145 = true then (some false) else ((strings_Contains.f a0 (⟨#[0]⟩ : ByteArray)).bind fun t146 => (if t146 = true then (some false) else (if a0.toList = ([46] : List UInt8) then (some false) else (some (a0.toList != ([46, 46] : List UInt8)))))))) else (some false))) = some r := h
  clear h
  by_cases c2 : a0.toList = ([] : List UInt8)
  · rw [if_pos c2] at H
    have c2b0 : (a0.toList == ([] : List UInt8)) = true := beq_iff_eq.mpr c2
    have c2b1 : (a0.toList != ([] : List UInt8)) = false := bne_eq_false_iff_eq.mpr c2
    clear c2
    obtain rfl := Option.some.inj H
    go_enter Tryz.func67, Tryz.ntmps67
    go_wp2
    go_ret
    exact ⟨by first | rfl | (simp; done) | (simp [*]; done), by repeat (first | exact Drawn0.refl _ | apply Drawn0.step)⟩
  rw [if_neg c2] at H
  have c2b0 : (a0.toList == ([] : List UInt8)) = false := beq_eq_false_iff_ne.mpr c2
  have c2b1 : (a0.toList != ([] : List UInt8)) = true := bne_iff_ne.mpr c2
  by_cases c3 : (a0.size : Int) ≤ 24
  · rw [if_pos c3] at H
    have c3b0 : decide ((a0.size : Int) ≤ 24) = true := decide_eq_true c3
    have c3b1 : decide (a0.size ≤ 24) = true := decide_eq_true (by omega)
    clear c3
    replace H := Option.bind_eq_some_iff.mp H
    obtain ⟨t145, A40, H⟩ := H
    replace H : (if t145 = true then (some false) else ((strings_Contains.f a0 (⟨#[0]⟩ : ByteArray)).bind fun t146 => (if t146 = true then (some false) else (if a0.toList = ([46] : List UInt8) then (some false) else (some (a0.toList != ([46, 46] : List UInt8))))))) = some r := H
    have A4 := Aside0.mk A40
    clear A40
    by_cases c5 : t145 = true
    · subst c5
      have H1 : (some false) = some r := by rw [if_pos rfl] at H; exact H
      clear H
      have H := H1
      clear H1
      obtain rfl := Option.some.inj H
      go_enter Tryz.func67, Tryz.ntmps67
      go_wp2_with (first | (go_at_call 76; (with_reducible refine (strings_Contains.calls a0 (⟨#[47]⟩ : ByteArray) true _ A4.out).mono ?_); rintro e w' ⟨rfl, ⟨nd, rfl⟩⟩))
      go_ret
      exact ⟨by first | rfl | (simp; done) | (simp [*]; done), by repeat (first | exact Drawn0.refl _ | apply Drawn0.step)⟩
    replace c5 := Bool.eq_false_iff.mpr c5
    subst c5
    have H1 : ((strings_Contains.f a0 (⟨#[0]⟩ : ByteArray)).bind fun t146 => (if t146 = true then (some false) else (if a0.toList = ([46] : List UInt8) then (some false) else (some (a0.toList != ([46, 46] : List UInt8)))))) = some r := by rw [if_neg (show ¬ (false = true) by decide)] at H; exact H
    clear H
    have H := H1
    clear H1
    replace H := Option.bind_eq_some_iff.mp H
    obtain ⟨t146, A60, H⟩ := H
    replace H : (if t146 = true then (some false) else (if a0.toList = ([46] : List UInt8) then (some false) else (some (a0.toList != ([46, 46] : List UInt8))))) = some r := H
    have A6 := Aside0.mk A60
    clear A60
    by_cases c7 : t146 = true
    · subst c7
      have H1 : (some false) = some r := by rw [if_pos rfl] at H; exact H
      clear H
      have H := H1
      clear H1
      obtain rfl := Option.some.inj H
      go_enter Tryz.func67, Tryz.ntmps67
      go_wp2_with (first | (go_at_call 76; (with_reducible refine (strings_Contains.calls a0 (⟨#[47]⟩ : ByteArray) false _ A4.out).mono ?_); rintro e w' ⟨rfl, ⟨nd, rfl⟩⟩) | (go_at_call 76; (with_reducible refine (strings_Contains.calls a0 (⟨#[0]⟩ : ByteArray) true _ A6.out).mono ?_); rintro e w' ⟨rfl, ⟨nd, rfl⟩⟩))
      go_ret
      exact ⟨by first | rfl | (simp; done) | (simp [*]; done), by repeat (first | exact Drawn0.refl _ | apply Drawn0.step)⟩
    replace c7 := Bool.eq_false_iff.mpr c7
    subst c7
    have H1 : (if a0.toList = ([46] : List UInt8) then (some false) else (some (a0.toList != ([46, 46] : List UInt8)))) = some r := by rw [if_neg (show ¬ (false = true) by decide)] at H; exact H
    clear H
    have H := H1
    clear H1
    by_cases c8 : a0.toList = ([46] : List UInt8)
    · rw [if_pos c8] at H
      have c8b0 : (a0.toList == ([46] : List UInt8)) = true := beq_iff_eq.mpr c8
      have c8b1 : (a0.toList != ([46] : List UInt8)) = false := bne_eq_false_iff_eq.mpr c8
      clear c8
      obtain rfl := Option.some.inj H
      go_enter Tryz.func67, Tryz.ntmps67
      go_wp2_with (first | (go_at_call 76; (with_reducible refine (strings_Contains.calls a0 (⟨#[47]⟩ : ByteArray) false _ A4.out).mono ?_); rintro e w' ⟨rfl, ⟨nd, rfl⟩⟩) | (go_at_call 76; (with_reducible refine (strings_Contains.calls a0 (⟨#[0]⟩ : ByteArray) false _ A6.out).mono ?_); rintro e w' ⟨rfl, ⟨nd, rfl⟩⟩))
      go_ret
      exact ⟨by first | rfl | (simp; done) | (simp [*]; done), by repeat (first | exact Drawn0.refl _ | apply Drawn0.step)⟩
    rw [if_neg c8] at H
    have c8b0 : (a0.toList == ([46] : List UInt8)) = false := beq_eq_false_iff_ne.mpr c8
    have c8b1 : (a0.toList != ([46] : List UInt8)) = true := bne_iff_ne.mpr c8
    obtain rfl := Option.some.inj H
    go_enter Tryz.func67, Tryz.ntmps67
    go_wp2_with (first | (go_at_call 76; (with_reducible refine (strings_Contains.calls a0 (⟨#[47]⟩ : ByteArray) false _ A4.out).mono ?_); rintro e w' ⟨rfl, ⟨nd, rfl⟩⟩) | (go_at_call 76; (with_reducible refine (strings_Contains.calls a0 (⟨#[0]⟩ : ByteArray) false _ A6.out).mono ?_); rintro e w' ⟨rfl, ⟨nd, rfl⟩⟩))
    go_ret
    exact ⟨by first | rfl | (simp; done) | (simp [*]; done), by repeat (first | exact Drawn0.refl _ | apply Drawn0.step)⟩
  rw [if_neg c3] at H
  have c3b0 : decide ((a0.size : Int) ≤ 24) = false := decide_eq_false c3
  have c3b1 : decide (a0.size ≤ 24) = false := decide_eq_false (by omega)
  clear c3
  obtain rfl := Option.some.inj H
  go_enter Tryz.func67, Tryz.ntmps67
  go_wp2
  go_ret
  exact ⟨by first | rfl | (simp; done) | (simp [*]; done), by repeat (first | exact Drawn0.refl _ | apply Drawn0.step)⟩

end Go.Proofs.YtnngbhdofgodiaaGreatDoor.Z
end

section
/- path.Name, as printed. -/
namespace Go.Proofs.YtnngbhdofgodiaaGreatDoor.Z
open Go.RowKit Go.Proofs.YtnngbhdofgodiaaGreatDoorW.PrintWords Go.Proofs.YtnngbhdofgodiaaGreatDoorW.PrintLast Go.Proofs.YtnngbhdofgodiaaGreatDoor.PM
set_option linter.unusedSimpArgs false
theorem contains_f (a : ByteArray) (c : UInt8) : strings_Contains.f a ⟨#[c]⟩ = some (decide (c ∈ a.data.toList)) := by
  unfold strings_Contains.f
  rw [dif_pos (by rfl)]
  have hi := index_mem a.data.toList c
  exact congrArg some (by rw [Bool.eq_iff_iff]; simpa using hi)
theorem name_f (a : ByteArray) : path_Name.f a = some (nameL a.data.toList) := by
  unfold path_Name.f nameL
  rw [ByteArray.toList_eq, contains_f, contains_f]
  have hz := size_len a
  by_cases h1 : a.data.toList = []
  · simp [h1]
  · rw [if_neg h1]
    by_cases h2 : (a.size : Int) ≤ 24
    · rw [if_pos h2]
      have h2' : a.data.toList.length ≤ 24 := by omega
      by_cases h3 : 47 ∈ a.data.toList <;> by_cases h4 : 0 ∈ a.data.toList <;> simp [h1, h3, h4]
      by_cases h5 : a.data.toList = [46]
      · have h2d : decide (a.size ≤ 24) = true := by simp; omega
        by_cases h6 : a.data.toList = [46, 46]
        · simp [h6]
        · simp [h5, h6, h2d]
      · have h2d : decide (a.size ≤ 24) = true := by simp; omega
        by_cases h6 : a.data.toList = [46, 46]
        · simp [h6]
        · simp [h5, h6, h2d]
    · rw [if_neg h2, show decide (a.data.toList ≠ [] ∧ a.data.toList.length ≤ 24 ∧ 47 ∉ a.data.toList ∧ 0 ∉ a.data.toList ∧ a.data.toList ≠ [46] ∧ a.data.toList ≠ [46, 46]) = false by simp; omega]
end Go.Proofs.YtnngbhdofgodiaaGreatDoor.Z
end

section
/- What turns one block alone. -/
namespace Go.Proofs.YtnngbhdofgodiaaGreatDoor.Z
open Go.RowKit Go.Proofs.YtnngbhdofgodiaaGreatDoorW.PrintWords Go.Proofs.YtnngbhdofgodiaaGreatDoorW.PrintLast
set_option linter.unusedVariables false
/-- Only block g is another one: it is o now. -/
def Step (g : Nat) (w w' : World) (o : Obj) : Prop := w'.heap[g]? = some o ∧ KeepBut w w' g none ∧ ∀ B, B ≤ g → Below B w w'
theorem Step.refl {g : Nat} {w : World} {o : Obj} (h : w.heap[g]? = some o) : Step g w w o := ⟨h, KeepBut.refl _ _ _, fun _ _ => Below.refl _ _⟩
theorem Step.trans {g : Nat} {w w1 w2 : World} {o o' : Obj} (h : Step g w w1 o) (k : Step g w1 w2 o') : Step g w w2 o' := ⟨k.1, h.2.1.trans k.2.1 (.inl rfl), fun B hB => (h.2.2 B hB).trans (k.2.2 B hB)⟩
theorem Step.drew {g : Nat} {w w1 : World} {o : Obj} (h : Step g w w1 o) : Step g w w1.drew o := ⟨blk_drew h.1, keep_drew h.2.1, fun B hB => below_drew1 (h.2.2 B hB)⟩
theorem Step.set {g : Nat} {w w1 : World} {t : TypeId} {cs : Array Value} (h : Step g w w1 (.cells cs t (0, 0))) (j : Nat) (u : Value) {cs' : Array Value} (e : cs.setIfInBounds j u = cs') : Step g w (w1.setCell ⟨g, j, none⟩ u) (.cells cs' t (0, 0)) :=
  ⟨e ▸ blk_set h.1 j u, h.2.1.set_ j u, fun B hB => (h.2.2 B hB).setCell (p := ⟨g, j, none⟩) hB u⟩
end Go.Proofs.YtnngbhdofgodiaaGreatDoor.Z
end

section
/- (*letters).letter: sync.Once of one goroutine, and the letters that it lays. -/
namespace Go.Proofs.YtnngbhdofgodiaaGreatDoor.Z
open Go.RowKit Go.Proofs.YtnngbhdofgodiaaGreatDoorW.PrintWords Go.Proofs.YtnngbhdofgodiaaGreatDoorW.PrintLast
set_option linter.unusedVariables false
attribute [local go_sem ↓] Go.wp_at_zero Go.wp_at_succ
set_option linter.unusedSimpArgs false
theorem disable (w : World) : (callFunc 88 #[]).run Tryz.prog w = .ok (.value (.tuple #[])) w := run_call_mark0 Tryz.func88 (by kernel_rfl) (by kernel_rfl) (by kernel_rfl) .disable (by kernel_rfl) w
theorem enable (w : World) : (callFunc 90 #[]).run Tryz.prog w = .ok (.value (.tuple #[])) w := run_call_mark0 Tryz.func90 (by kernel_rfl) (by kernel_rfl) (by kernel_rfl) .enable (by kernel_rfl) w
theorem acquire (a : Addr) (w : World) : (callFunc 91 #[.pointer (some a)]).run Tryz.prog w = .ok (.value (.tuple #[])) w := run_call_marked Tryz.func91 (by kernel_rfl) (by kernel_rfl) (by kernel_rfl) .acquire (by kernel_rfl) a w
theorem releaseMerge (a : Addr) (w : World) : (callFunc 93 #[.pointer (some a)]).run Tryz.prog w = .ok (.value (.tuple #[])) w := run_call_marked Tryz.func93 (by kernel_rfl) (by kernel_rfl) (by kernel_rfl) .releaseMerge (by kernel_rfl) a w
/-- What the letters hold. -/
def lets (d s c0 c1 c2 c3 c4 : Int) (m : Int := 0) : Obj := .cells #[.int .u32 d, .int .i32 m, .int .u32 s, .int .u8 c0, .int .u8 c1, .int .u8 c2, .int .u8 c3, .int .u8 c4] 102 (0, 0)
theorem store_deferred (g : Nat) (s c0 c1 c2 c3 c4 m d : Int) (u : FrameMode) (w : World) (hb : w.heap[g]? = some (lets d s c0 c1 c2 c3 c4 m)) :
    CallsD Tryz.prog 75 #[.pointer (some ⟨g, 0, none⟩), .bool true] u w fun e u' w' => u' = u ∧ (e = .returned (.tuple #[]) ∧ Step g w w' (lets 1 s c0 c1 c2 c3 c4 m)) := by
  have hc' : w.drew.cell? ⟨g, 0, none⟩ = some (.int .u32 d) := (blk_cell (blk_drew hb) 0).trans rfl
  have hz' : w.drew.frozen? ⟨g, 0, none⟩ = false := blk_frozen (blk_drew hb) 0
  have hst := run_call_store (P := Tryz.prog) Tryz.func84 (by kernel_rfl) (by kernel_rfl) (by kernel_rfl) (by kernel_rfl) (k := .u32) (y := 1) hc' hz'
  have HS : Aside0 (Step g w (w.setCell ⟨g, 0, none⟩ (.int .u32 1)).drew (lets 1 s c0 c1 c2 c3 c4 m)) := ⟨((Step.refl hb).set 0 _ rfl).drew⟩
  clear hb
  go_enter_d Tryz.func75, Tryz.ntmps75
  go_wp2
  go_region_calls
  all_goals (go_end0; first | exact ⟨rfl, rfl, HS.out⟩ | exact ⟨rfl, HS.out⟩ | exact HS.out)
set_option maxRecDepth 100000 in
set_option maxHeartbeats 1600000 in
theorem unlock_deferred (g : Nat) (s c0 c1 c2 c3 c4 d : Int) (u : FrameMode) (w : World) (hb : w.heap[g]? = some (lets d s c0 c1 c2 c3 c4 1)) :
    CallsD Tryz.prog 74 #[.pointer (some ⟨g, 1, none⟩)] u w fun e u' w' => u' = u ∧ (e = .returned (.tuple #[]) ∧ Step g w w' (lets d s c0 c1 c2 c3 c4)) := by
  have hc : w.cell? ⟨g, 1, none⟩ = some (.int .i32 1) := (blk_cell hb 1).trans rfl
  have hz : w.frozen? ⟨g, 1, none⟩ = false := blk_frozen hb 1
  have HS : Aside0 (Step g w (w.setCell ⟨g, 1, none⟩ (.int .i32 0)) (lets d s c0 c1 c2 c3 c4)) := ⟨(Step.refl hb).set 1 _ rfl⟩
  clear hb
  have hd := disable
  have he := enable
  have hr := releaseMerge
  have hadd := run_call_add (P := Tryz.prog) Tryz.func94 (by kernel_rfl) (by kernel_rfl) (by kernel_rfl) .i32 (by kernel_rfl) (y := -1) (s := 0) hc hz (by simp [go_sem]; rfl)
  have hcv := run_convert_to_unsafe (P := Tryz.prog) (src := 150) (dst := 120) Tryz.underlying150 Tryz.underlying120 (by kernel_rfl) hc
  go_enter_d Tryz.func74, Tryz.ntmps74
  go_wp2
  go_end0
  go_wp2
  go_end0
  first | exact ⟨rfl, rfl, HS.out⟩ | exact ⟨rfl, HS.out⟩ | exact HS.out
set_option maxRecDepth 100000 in
set_option maxHeartbeats 1600000 in
theorem lock_free (g : Nat) (s c0 c1 c2 c3 c4 d : Int) (w : World) (hb : w.heap[g]? = some (lets d s c0 c1 c2 c3 c4)) :
    Calls Tryz.prog 73 #[.pointer (some ⟨g, 1, none⟩)] w fun e w' => e = .returned (.tuple #[]) ∧ Step g w w' (lets d s c0 c1 c2 c3 c4 1) := by
  have hc : w.cell? ⟨g, 1, none⟩ = some (.int .i32 0) := (blk_cell hb 1).trans rfl
  have hz : w.frozen? ⟨g, 1, none⟩ = false := blk_frozen hb 1
  have HS : Aside0 (Step g w (w.setCell ⟨g, 1, none⟩ (.int .i32 1)) (lets d s c0 c1 c2 c3 c4 1)) := ⟨(Step.refl hb).set 1 _ rfl⟩
  clear hb
  have hd := disable
  have he := enable
  have ha := acquire
  have hcas := run_call_cas_hit (P := Tryz.prog) Tryz.func89 (by kernel_rfl) (by kernel_rfl) (by kernel_rfl) .i32 (by kernel_rfl) (y := 1) hc hz
  have hc' : (w.setCell ⟨g, 1, none⟩ (.int .i32 1)).cell? ⟨g, 1, none⟩ = some (.int .i32 1) := World.cell?_setCell_same w ⟨g, 1, none⟩ _ hc
  have hcv := run_convert_to_unsafe (P := Tryz.prog) (src := 150) (dst := 120) Tryz.underlying150 Tryz.underlying120 (by kernel_rfl) hc'
  go_enter Tryz.func73, Tryz.ntmps73
  go_wp2
  first | go_end0 | (simp only [Exit.inBlock, Exit.then]; refine bodyPost_ret (results_none rfl _ _ _) rfl ?_) | refine bodyPost_ret (results_none rfl _ _ _) rfl ?_
  go_wp2
  go_end0
  exact ⟨rfl, HS.out⟩
set_option maxRecDepth 100000 in
set_option maxHeartbeats 1600000 in
theorem laid (g : Nat) (pl : Addr) (w : World) (hpg : ¬ pl.block = g) (hp : w.cell? pl = some (.pointer (some ⟨g, 0, none⟩))) (d s c0 c1 c2 c3 c4 m : Int) (hb : w.heap[g]? = some (lets d s c0 c1 c2 c3 c4 m)) :
    Calls Tryz.prog 56 #[.pointer (some pl)] w fun e w' => e = .returned (.tuple #[]) ∧ Step g w w' (lets d s c0 105 100 99 120 m) := by
  have hfar : ∀ (W : World) (j : Nat) (v : Value), (W.setCell ⟨g, j, none⟩ v).cell? pl = W.cell? pl := fun W j v => World.cell?_setCell_other W ⟨g, j, none⟩ pl v (fun h => hpg (by rw [← h]))
  have h4 : w.cell? ⟨g, 4, none⟩ = some (.int .u8 c1) := (blk_cell hb 4).trans rfl
  have h5 : w.cell? ⟨g, 5, none⟩ = some (.int .u8 c2) := (blk_cell hb 5).trans rfl
  have h6 : w.cell? ⟨g, 6, none⟩ = some (.int .u8 c3) := (blk_cell hb 6).trans rfl
  have h7 : w.cell? ⟨g, 7, none⟩ = some (.int .u8 c4) := (blk_cell hb 7).trans rfl
  have f4 : w.frozen? ⟨g, 4, none⟩ = false := blk_frozen hb 4
  have f5 : w.frozen? ⟨g, 5, none⟩ = false := blk_frozen hb 5
  have f6 : w.frozen? ⟨g, 6, none⟩ = false := blk_frozen hb 6
  have f7 : w.frozen? ⟨g, 7, none⟩ = false := blk_frozen hb 7
  have HS : Aside0 (Step g w ((((w.setCell ⟨g, 4, none⟩ (.int .u8 105)).setCell ⟨g, 5, none⟩ (.int .u8 100)).setCell ⟨g, 6, none⟩ (.int .u8 99)).setCell ⟨g, 7, none⟩ (.int .u8 120)).drew (lets d s c0 105 100 99 120 m)) := ⟨(((((Step.refl hb).set 4 _ rfl).set 5 _ rfl).set 6 _ rfl).set 7 _ rfl).drew⟩
  clear hb
  go_enter Tryz.func56, Tryz.ntmps56
  go_wp2
  go_region_held3 (fun w' => w'.cell? pl = some (.pointer (some ⟨g, 0, none⟩))) (go_keep) (fail)
  all_goals (go_end0; exact ⟨rfl, HS.out⟩)
theorem loads_one (a : Addr) (d : Int) (w : World) (h : w.cell? a = some (.int .u32 d)) : Calls Tryz.prog 65 #[.pointer (some a)] w fun e w' => e = .returned (.bool (d != 0)) ∧ w' = w := by
  have hl := run_call_load (P := Tryz.prog) Tryz.func72 (by kernel_rfl) (by kernel_rfl) (by kernel_rfl) .u32 (by kernel_rfl) h
  go_enter Tryz.func65, Tryz.ntmps65
  go_wp2
  go_ret
  exact ⟨rfl, rfl⟩
set_option maxRecDepth 100000 in
set_option maxHeartbeats 3200000 in
theorem slow (g : Nat) (pl : Addr) (w : World) (hpg : ¬ pl.block = g) (hp : w.cell? pl = some (.pointer (some ⟨g, 0, none⟩))) (s c0 c1 c2 c3 c4 : Int) (hb : w.heap[g]? = some (lets 0 s c0 c1 c2 c3 c4)) :
    Calls Tryz.prog 66 #[.pointer (some ⟨g, 0, none⟩), .func (.func 56) #[] #[.pointer (some pl)]] w fun e w' => e = .returned (.tuple #[]) ∧ Step g w w' (lets 1 s c0 105 100 99 120) := by
  have hnot : ∀ (x : Bool) (w : World), (Op.unary .not (.bool x)).run Tryz.prog w = .ok (.bool (!x)) w := fun _ _ => rfl
  have HB := Aside0.mk hb
  have HP := Aside0.mk hp
  clear hp hb
  go_enter_defers Tryz.func66, Tryz.ntmps66
  go_wp2_with (go_at_call 73; refine (lock_free g s c0 c1 c2 c3 c4 0 _ HB.out).mono ?_; rintro e w1 ⟨rfl, h1⟩; have S1 := Aside0.mk h1; clear h1)
  have HP1 : Aside0 (w1.cell? pl = some (.pointer (some ⟨g, 0, none⟩))) := ⟨keep_cell S1.out.2.1 HP.out hpg⟩
  go_wp2_with (first | (go_at_call 65; refine (loads_one ⟨g, 0, none⟩ 0 _ ((blk_cell S1.out.1 0).trans rfl)).mono ?_; rintro e w' ⟨rfl, rfl⟩) | (go_at_call 56; refine (laid g pl _ hpg HP1.out 0 s c0 c1 c2 c3 c4 1 S1.out.1).mono ?_; rintro e w2 ⟨rfl, h2⟩; have S2 := Aside0.mk h2; clear h2))
  refine leaves_cons (f := 75) (args := #[.pointer (some ⟨g, 0, none⟩), .bool true]) (by simp) (by simp [go_sem]) ?_
  refine (store_deferred g s c0 105 100 99 120 1 0 .returning _ S2.out.1).mono ?_
  rintro e u' w3 ⟨rfl, rfl, S3⟩
  refine leaves_cons (f := 74) (args := #[.pointer (some ⟨g, 1, none⟩)]) (by simp [settle]) (by simp [go_sem]) ?_
  refine (unlock_deferred g s c0 105 100 99 120 1 _ _ S3.1).mono ?_
  rintro e u' w4 ⟨rfl, rfl, S4⟩
  have S5 : Aside0 (Step g w w4 (lets 1 s c0 105 100 99 120)) := ⟨((S1.out.trans S2.out).trans S3).trans S4⟩
  clear S1 S2 S3 S4 HB HP HP1
  have S6 := S5.out
  simp [Leaves, settle, results, Tryz.results66, S6]
set_option maxRecDepth 100000 in
set_option maxHeartbeats 1600000 in
theorem do_first (g : Nat) (pl : Addr) (w : World) (hpg : ¬ pl.block = g) (hp : w.cell? pl = some (.pointer (some ⟨g, 0, none⟩))) (s c0 c1 c2 c3 c4 : Int) (hb : w.heap[g]? = some (lets 0 s c0 c1 c2 c3 c4)) :
    Calls Tryz.prog 55 #[.pointer (some ⟨g, 0, none⟩), .func (.func 56) #[] #[.pointer (some pl)]] w fun e w' => e = .returned (.tuple #[]) ∧ Step g w w' (lets 1 s c0 105 100 99 120) := by
  have hnot : ∀ (x : Bool) (w : World), (Op.unary .not (.bool x)).run Tryz.prog w = .ok (.bool (!x)) w := fun _ _ => rfl
  have HB := Aside0.mk hb
  have HP := Aside0.mk hp
  clear hb hp
  go_enter Tryz.func55, Tryz.ntmps55
  go_wp2_with (first | (go_at_call 65; refine (loads_one ⟨g, 0, none⟩ 0 _ ((blk_cell HB.out 0).trans rfl)).mono ?_; rintro e w' ⟨rfl, rfl⟩) | (go_at_call 66; refine (slow g pl _ hpg HP.out s c0 c1 c2 c3 c4 HB.out).mono ?_; rintro e w1 ⟨rfl, h1⟩; have S1 := Aside0.mk h1; clear h1))
  go_end0
  exact ⟨rfl, S1.out⟩
theorem do_done (a : Addr) (d : Int) (hd : ¬ d = 0) (fv : Value) (w : World) (h0 : w.cell? a = some (.int .u32 d)) :
    Calls Tryz.prog 55 #[.pointer (some a), fv] w fun e w' => e = .returned (.tuple #[]) ∧ w' = w := by
  have hnot : ∀ (x : Bool) (w : World), (Op.unary .not (.bool x)).run Tryz.prog w = .ok (.bool (!x)) w := fun _ _ => rfl
  have hd' : (d != 0) = true := by simp [hd]
  have hd2 : (!(d != 0)) = false := by simp [hd]
  have H0 := Aside0.mk h0
  clear h0
  go_enter Tryz.func55, Tryz.ntmps55
  go_wp2_with (go_at_call 65; refine (loads_one a d _ H0.out).mono ?_; rintro e w' ⟨rfl, rfl⟩; try rw [hd'])
  go_end0
  exact ⟨rfl, rfl⟩
/-- Do, done or not. -/
theorem do_any (g : Nat) (pl : Addr) (w : World) (hpg : ¬ pl.block = g) (hp : w.cell? pl = some (.pointer (some ⟨g, 0, none⟩))) (d s c0 c1 c2 c3 c4 : Int) (hb : w.heap[g]? = some (lets d s c0 c1 c2 c3 c4)) (hd : d = 0 ∨ d = 1 ∧ c1 = 105 ∧ c2 = 100 ∧ c3 = 99 ∧ c4 = 120) :
    Calls Tryz.prog 55 #[.pointer (some ⟨g, 0, none⟩), .func (.func 56) #[] #[.pointer (some pl)]] w fun e w' => e = .returned (.tuple #[]) ∧ Step g w w' (lets 1 s c0 105 100 99 120) := by
  rcases hd with rfl | ⟨rfl, rfl, rfl, rfl, rfl⟩
  · exact do_first g pl w hpg hp s c0 c1 c2 c3 c4 hb
  · refine (do_done ⟨g, 0, none⟩ 1 (by decide) _ w ((blk_cell hb 0).trans rfl)).mono ?_
    rintro e w' ⟨rfl, rfl⟩
    exact ⟨rfl, Step.refl hb⟩
def letterOf (k : Int) : Int := if k = 1 then 105 else if k = 2 then 100 else if k = 3 then 99 else if k = 4 then 120 else 0
set_option maxRecDepth 100000 in
set_option maxHeartbeats 1600000 in
/-- letter, of letters whose first is 0. -/
theorem letter (g : Nat) (k : Int) (hk0 : 0 ≤ k) (w : World) (d s c1 c2 c3 c4 : Int) (hb : w.heap[g]? = some (lets d s 0 c1 c2 c3 c4)) (hd : d = 0 ∨ d = 1 ∧ c1 = 105 ∧ c2 = 100 ∧ c3 = 99 ∧ c4 = 120) :
    Calls Tryz.prog 41 #[.pointer (some ⟨g, 0, none⟩), .int .u8 k] w fun e w' => e = .returned (.int .u8 (letterOf k)) ∧
      (w'.heap[g]? = some (lets 1 s 0 105 100 99 120) ∧ KeepBut w w' g none ∧ ∀ B, B ≤ g → B ≤ w.heap.size → Below B w w') := by
  have hmf : ∀ (fn : Fn) (first cap : Array Value) (w : World), (Instr.makeFunc fn first cap).run Tryz.prog w = .ok (.func fn first cap) w := fun _ _ _ _ => rfl
  have hlt := blk_lt hb
  have ka := (KeepBut.refl w g none).trans (KeepBut.of_grown (World.grownBy_alloc w (.cells #[.pointer (some ⟨g, 0, none⟩)] 122) none) g) (.inl rfl)
  have HD := Aside0.mk (do_any g ⟨w.heap.size, 0, none⟩ (w.alloc (.cells #[.pointer (some ⟨g, 0, none⟩)] 122)) (by simp; omega) (by simp) d s 0 c1 c2 c3 c4 (blk_alloc hb _) hd)
  have HA : Aside0 (∀ B, B ≤ w.heap.size → Below B w (w.alloc (.cells #[.pointer (some ⟨g, 0, none⟩)] 122))) := ⟨fun B h => (Below.refl B w).alloc h _⟩
  have KA := Aside0.mk ka
  have HLT := Aside0.mk hlt
  have hp0 : (w.alloc (.cells #[.pointer (some ⟨g, 0, none⟩)] 122)).cell? ⟨w.heap.size, 0, none⟩ = some (.pointer (some ⟨g, 0, none⟩)) := by simp
  have HP0 := Aside0.mk hp0
  clear hb ka hd hp0 hlt
  by_cases h5 : k < 5
  · have hl : ∀ w' : World, w'.heap[g]? = some (lets 1 s 0 105 100 99 120) → w'.cell? ⟨g, 3 + k.toNat, none⟩ = some (.int .u8 (letterOf k)) := by
      intro w' h
      have : k = 0 ∨ k = 1 ∨ k = 2 ∨ k = 3 ∨ k = 4 := by omega
      rcases this with rfl | rfl | rfl | rfl | rfl <;> exact (blk_cell h _).trans rfl
    have HL := Aside0.mk hl
    clear hl
    go_enter Tryz.func41, Tryz.ntmps41
    go_wp2_with (go_at_call 55; refine HD.out.mono ?_; rintro e w1 ⟨rfl, ⟨hb1, hk1, hB1⟩⟩; have hq := HL.out w1 hb1; have hp1 : w1.cell? ⟨w.heap.size, 0, none⟩ = some (.pointer (some ⟨g, 0, none⟩)) := keep_cell hk1 HP0.out (by have := HLT.out; simp; omega); have HB1 := Aside0.mk hb1; have HK1 := Aside0.mk hk1; have HBB := Aside0.mk hB1; clear hb1 hk1 hB1)
    go_ret
    exact ⟨rfl, HB1.out, KA.out.trans HK1.out (.inl rfl), fun B h h2 => (HA.out B h2).trans (HBB.out B h)⟩
  · have hge : 5 ≤ k := by omega
    have h0 : letterOf k = 0 := by unfold letterOf; repeat' (first | rw [if_neg (by omega)] | rfl)
    rw [h0]
    go_enter Tryz.func41, Tryz.ntmps41
    go_wp2_with (go_at_call 55; refine HD.out.mono ?_; rintro e w1 ⟨rfl, ⟨hb1, hk1, hB1⟩⟩; have HB1 := Aside0.mk hb1; have HK1 := Aside0.mk hk1; have HBB := Aside0.mk hB1; clear hb1 hk1 hB1)
    go_ret
    exact ⟨rfl, HB1.out, KA.out.trans HK1.out (.inl rfl), fun B h h2 => (HA.out B h2).trans (HBB.out B h)⟩
end Go.Proofs.YtnngbhdofgodiaaGreatDoor.Z
end

section
/- math/bits.Len64. -/
namespace Go.Proofs.YtnngbhdofgodiaaGreatDoor.Z
open Go.RowKit Go.Proofs.YtnngbhdofgodiaaGreatDoorW.PrintWords Go.Proofs.YtnngbhdofgodiaaGreatDoorW.PrintLast
set_option linter.unusedVariables false
def bits_Len64.f (a0 : Int) : Option Int := if 0 ≤ a0 ∧ a0 ≤ 18446744073709551615 then some (Lib.bitLen a0.toNat : Int) else none
theorem bits_Len64.calls (a0 : Int) (r : Int) (w : World) (h : bits_Len64.f a0 = some r) :
    Calls Tryz.prog 68 #[.int .u64 a0] w fun e w' => e = .returned (.int .i64 r) ∧ Drawn0 w w' := by
  unfold bits_Len64.f at h
  split at h
  case isFalse => cases h
  case isTrue hs =>
    obtain rfl := Option.some.inj h
    exact (Tryz.bits_Len64 a0 w hs.1 hs.2).mono fun e w' ⟨he, hw⟩ => ⟨he, hw ▸ Drawn0.refl _⟩
end Go.Proofs.YtnngbhdofgodiaaGreatDoor.Z
end

section
-- Printed by a program of this session (mp.py) out of the translation.
namespace Go.Proofs.YtnngbhdofgodiaaGreatDoor.Z
open Go.RowKit Go.Proofs.YtnngbhdofgodiaaGreatDoorW.PrintWords Go.Proofs.YtnngbhdofgodiaaGreatDoorW.PrintLast Go.Proofs.YtnngbhdofgodiaaGreatDoorW.PrintMore
attribute [local go_sem] max2_int min2_int max_two min_two max_three min_three max_four min_four   -- for this text's walks alone
set_option linter.unusedVariables false
set_option linter.unusedSimpArgs false

/-! ### pack_Number: function 60 -/
mutual
def pack_Number.j0 : Nat → Int → Int → Bool → Option (ByteArray × Int)
  | 0, _, _, _ => none
  | k + 1, x0, x1, x20 => if x20 = true then (some ((⟨#[]⟩ : ByteArray), 1)) else (if 0 ≤ x1 then (if (x1 : Int).toNat ≤ 281474976710656 then ((some (List.replicate (x1 : Int).toNat 0 : List Int)).bind fun y136 => (pack_Number.l0 k x0 x1 y136 (y136.length : Int) 0)) else (none)) else (none))
def pack_Number.l0 : Nat → Int → Int → List Int → Int → Int → Option (ByteArray × Int)
  | 0, _, _, _, _, _ => none
  | k + 1, x0, x1, x6, x24, x25 => if x25 < x24 then (if 0 ≤ (wrap64 (8 * x25)) then (if 0 ≤ (wrap64 ((wrap64 (x1 - 1)) - x25)) then (if (wrap64 ((wrap64 (x1 - 1)) - x25)) < (x6.length : Int) then (pack_Number.l0 k x0 x1 (x6.set ((wrap64 ((wrap64 (x1 - 1)) - x25)) : Int).toNat ((shr .u64 x0 (wrap64 (8 * x25))) % 256)) x24 (wrap64 (x25 + 1))) else (none)) else (none)) else (none)) else (some (strOfNums x6, 0))
end
def pack_Number.f (k : Nat) (a0 : Int) (a1 : Int) : Option (ByteArray × Int) := if a1 < 1 then (pack_Number.j0 k a0 a1 true) else (if a1 > 8 then (pack_Number.j0 k a0 a1 true) else ((bits_Len64.f a0).bind fun t135 => (pack_Number.j0 k a0 a1 (decide (t135 > (wrap64 (8 * a1)))))))
theorem pack_Number.mono_l : ∀ k, (∀ y0 y1 y2, LeO (pack_Number.j0 k y0 y1 y2) (pack_Number.j0 (k + 1) y0 y1 y2)) ∧ (∀ y0 y1 y2 y3 y4, LeO (pack_Number.l0 k y0 y1 y2 y3 y4) (pack_Number.l0 (k + 1) y0 y1 y2 y3 y4))
  | 0 => ⟨fun _ _ _ r h => by simp [pack_Number.j0] at h, fun _ _ _ _ _ r h => by simp [pack_Number.l0] at h⟩
  | k + 1 => by
    obtain ⟨ih0, ih1⟩ := pack_Number.mono_l k
    refine ⟨?_, ?_⟩
    · intro y0 y1 y2
      unfold pack_Number.j0
      repeat' first
      | (with_reducible exact ih0 _ _ _)
      | (with_reducible exact ih1 _ _ _ _ _)
      | (with_reducible exact LeO.refl _)
      | (with_reducible exact LeO.none _)
      | (with_reducible refine LeO.ite ?_ ?_)
      | (with_reducible refine LeO.bind ?_ (fun _ => ?_))
      | exact ih0 _ _ _
      | exact ih1 _ _ _ _ _
      | exact LeO.none _
      | refine LeO.ite ?_ ?_
      | refine LeO.bind ?_ (fun _ => ?_)
    intro y0 y1 y2 y3 y4
    unfold pack_Number.l0
    repeat' first
    | (with_reducible exact ih0 _ _ _)
    | (with_reducible exact ih1 _ _ _ _ _)
    | (with_reducible exact LeO.refl _)
    | (with_reducible exact LeO.none _)
    | (with_reducible refine LeO.ite ?_ ?_)
    | (with_reducible refine LeO.bind ?_ (fun _ => ?_))
    | exact ih0 _ _ _
    | exact ih1 _ _ _ _ _
    | exact LeO.none _
    | refine LeO.ite ?_ ?_
    | refine LeO.bind ?_ (fun _ => ?_)
theorem pack_Number.mono : ∀ a0 a1 k, LeO (pack_Number.f k a0 a1) (pack_Number.f (k + 1) a0 a1) := by
  intro a0 a1 k
  obtain ⟨ih0, ih1⟩ := pack_Number.mono_l k
  unfold pack_Number.f
  repeat' first
      | (with_reducible exact ih0 _ _ _)
      | (with_reducible exact ih1 _ _ _ _ _)
      | (with_reducible exact LeO.refl _)
      | (with_reducible exact LeO.none _)
      | (with_reducible refine LeO.ite ?_ ?_)
      | (with_reducible refine LeO.bind ?_ (fun _ => ?_))
      | exact ih0 _ _ _
      | exact ih1 _ _ _ _ _
      | exact LeO.none _
      | refine LeO.ite ?_ ?_
      | refine LeO.bind ?_ (fun _ => ?_)
set_option maxHeartbeats 8000000 in
set_option maxRecDepth 100000 in
theorem pack_Number.calls (k : Nat) (a0 : Int) (a1 : Int) (r1 : ByteArray) (r2 : Int) (w : World) (h : pack_Number.f k a0 a1 = some (r1, r2)) :
    Calls Tryz.prog 60 #[.int .u64 a0, .int .i64 a1] w fun e w' => e = .returned (.tuple #[.string r1, .int .i64 r2]) ∧ Below w.heap.size w w' := by
  have HB := Aside0.mk (Below.refl w.heap.size w)
  have H : (if a1 < 1 then (pack_Number.j0 k a0 a1 true) else (if a1 > 8 then (pack_Number.j0 k a0 a1 true) else ((bits_Len64.f a0).bind fun t135 => (pack_Number.j0 k a0 a1 (decide (t135 > (wrap64 (8 * a1)))))))) = some (r1, r2) := h
  clear h
  have HC3 := Aside0.mk H
  clear H
  go_enter Tryz.func60, Tryz.ntmps60
  go_upto_region 1 with (fail)
  go_cut [20] (fun v20 wc => ∃ (kq : Nat) (x20_2 : Bool), v20 = .bool x20_2 ∧ Aside0 (pack_Number.j0 kq a0 a1 x20_2 = some (r1, r2)) ∧ Aside0 (kq ≤ k) ∧ Aside0 (Below w.heap.size w wc))
  case first =>
    have H := HC3.out
    clear HC3
    by_cases c4 : a1 < 1
    · rw [if_pos c4] at H
      have c4b0 : decide (a1 < 1) = true := decide_eq_true c4
      clear c4
      (first | rw [c4b0] | (simp only [i64_w, i32_w]; rw [c4b0]) | skip)
      have H' := Aside0.mk H
      clear H
      go_wp2
      go_meet
      case rel => exact ⟨_, (true), (by first | rfl | (simp; done) | (simp [*]; done)), H', ⟨by first | omega | exact Nat.le_refl _⟩, ⟨bel_⟩⟩
    rw [if_neg c4] at H
    have c4b0 : decide (a1 < 1) = false := decide_eq_false c4
    clear c4
    (first | rw [c4b0] | (simp only [i64_w, i32_w]; rw [c4b0]) | skip)
    by_cases c5 : a1 > 8
    · rw [if_pos c5] at H
      have c5b0 : decide (8 < a1) = true := decide_eq_true c5
      clear c5
      have H' := Aside0.mk H
      clear H
      go_wp2
      go_meet
      case rel => exact ⟨_, (true), (by first | rfl | (simp; done) | (simp [*]; done)), H', ⟨by first | omega | exact Nat.le_refl _⟩, ⟨bel_⟩⟩
    rw [if_neg c5] at H
    have c5b0 : decide (8 < a1) = false := decide_eq_false c5
    clear c5
    replace H := Option.bind_eq_some_iff.mp H
    obtain ⟨t135, A60, H⟩ := H
    replace H : (pack_Number.j0 k a0 a1 (decide (t135 > (wrap64 (8 * a1))))) = some (r1, r2) := H
    have A6 := Aside0.mk A60
    clear A60
    have H' := Aside0.mk H
    clear H
    go_wp2_with (first | (go_at_call 68; (with_reducible refine (bits_Len64.calls a0 t135 _ A6.out).mono ?_); rintro e w' ⟨rfl, ⟨nd, rfl⟩⟩))
    go_meet
    case rel => exact ⟨_, (decide (t135 > (wrap64 (8 * a1)))), (by first | rfl | (simp; done) | (simp [*]; done)), H', ⟨by first | omega | exact Nat.le_refl _⟩, ⟨bel_⟩⟩
  case rest =>
    clear HC3
    try clear p2
    try clear c4
    try clear c4b0
    try clear c5
    try clear c5b0
    try clear c6
    try clear p6
    obtain ⟨kq, x20_2, rfl, HA, HJ2, HB⟩ := hcut
    cases kq with
    | zero => exact absurd HA.out (by simp [pack_Number.j0])
    | succ kj2 =>
      have H := HA.out
      clear HA
      simp only [pack_Number.j0] at H
      by_cases c7 : x20_2 = true
      · subst c7
        have H1 : (some ((⟨#[]⟩ : ByteArray), 1)) = some (r1, r2) := by rw [if_pos rfl] at H; exact H
        clear H
        have H := H1
        clear H1
        simp only [Option.some.injEq, Prod.mk.injEq] at H
        obtain ⟨rfl, rfl⟩ := H
        go_wp2
        go_ret2
        exact ⟨by first | rfl | (simp [errW_none, errW_some] <;> rfl) | (simp [*, errW_none, errW_some] <;> rfl), bel_⟩
      replace c7 := Bool.eq_false_iff.mpr c7
      subst c7
      have H1 : (if 0 ≤ a1 then (if (a1 : Int).toNat ≤ 281474976710656 then ((some (List.replicate (a1 : Int).toNat 0 : List Int)).bind fun y136 => (pack_Number.l0 kj2 a0 a1 y136 (y136.length : Int) 0)) else (none)) else (none)) = some (r1, r2) := by rw [if_neg (show ¬ (false = true) by decide)] at H; exact H
      clear H
      have H := H1
      clear H1
      by_cases c8 : 0 ≤ a1
      · rw [if_pos c8] at H
        have c8b0 := eq_true c8
        have c8b1 : decide (0 ≤ a1) = true := decide_eq_true c8
        clear c8
        by_cases c9 : (a1 : Int).toNat ≤ 281474976710656
        · rw [if_pos c9] at H
          have c9b0 := eq_true c9
          have c9b1 : decide ((a1 : Int).toNat ≤ 281474976710656) = true := decide_eq_true c9
          (try simp only [Int.toNat_natCast] at c9b1)
          clear c9
          obtain ⟨y136, hy136⟩ : ∃ y_ : List Int, y_ = (List.replicate (a1 : Int).toNat 0) := ⟨_, rfl⟩
          replace H : (pack_Number.l0 kj2 a0 a1 y136 (y136.length : Int) 0) = some (r1, r2) := by first | (rw [hy136]; with_reducible exact H) | (have H2_ := (Option.bind_some _ _).symm.trans H; rw [hy136]; with_reducible exact H2_) | (have H2_ := (Option.bind_some _ _).symm.trans H; with_reducible exact H2_) | with_reducible exact H | (rw [hy136]; exact H) | exact H
          have Ny136 := Aside0.mk hy136
          clear hy136
          have H' := Aside0.mk H
          clear H
          go_wp2_with (first | ((with_reducible refine gate_dst (N := 22) rfl ?_); refine Kd.R_make (Kd.int .u8) _ 5 rfl (N := 22) rfl 40 _ _ rfl a1 rfl rfl Tryz.underlying40 (.int .u8 0) 1 info5 rfl (by decide) (by omega) 0 (ok := fun _ => True) (okp := fun _ => True) rfl (fun _ hk => hk) trivial (of_decide_eq_true (by first | (with_reducible assumption) | assumption)) (Nat.le_trans (Nat.mul_le_mul_right _ (of_decide_eq_true (by first | (with_reducible assumption) | assumption) : a1.toNat ≤ 281474976710656)) (by omega)) (Below.refl _ _) (Nat.le_refl _) ?_; intro v137 w10 ho11 hb hg_ hnew_; clear hg_ hnew_; (first | rw [← Ny136.out] at ho11 | (simp only [Int.reduceToNat] at ho11; rw [← Ny136.out] at ho11)); have HO138 := rl_ ho11; replace HB := hb_ hb; clear hb ho11; obtain ⟨Ao12, co12, eo12⟩ := Kd.R_slice HO138.out; subst eo12))
          go_loopg [25] kj2 (fun kq v25 w' => ∃ (x6_2 : List Int) (x25_2 : Int), v25 = .int .i64 x25_2 ∧ Aside0 (pack_Number.l0 kq a0 a1 x6_2 (y136.length : Int) x25_2 = some (r1, r2)) ∧ Aside0 (kq ≤ kj2) ∧ Aside0 (Kd.R (Kd.int .u8) 5 w' w.heap.size (fun _ => True) (.slice Ao12 y136.length co12) x6_2) ∧ Aside0 (Below w.heap.size w w'))
          case atStart => exact ⟨(y136), (0), (by first | rfl | (simp; done) | (simp [*]; done)), H', ⟨Nat.le_refl _⟩, ⟨ra_ HO138⟩, ⟨bel_⟩⟩
          case round =>
            clear H'
            try clear p2
            try clear c4
            try clear c4b0
            try clear c5
            try clear c5b0
            try clear c6
            try clear p6
            try clear c7
            try clear c8
            try clear c8b0
            try clear c8b1
            try clear c9
            try clear c9b0
            try clear c9b1
            try clear p2
            try clear p6
            obtain ⟨x6_2, x25_2, rfl, HA, HK2, HO_6, HB⟩ := hrel
            have hl6_2 := (Kd.R_reads' HO_6.out).1
            rw [hl6_2] at HO_6
            (try simp only [hl6_2])
            cases gk with
            | zero => exact absurd HA.out (by simp [pack_Number.l0])
            | succ k2 =>
              have H := HA.out
              clear HA
              simp only [pack_Number.l0] at H
              by_cases c13 : x25_2 < (y136.length : Int)
              · rw [if_pos c13] at H
                have c13b0 : decide (x25_2 < (y136.length : Int)) = true := decide_eq_true c13
                try (have c13b0y := c13b0; simp only [hl6_2] at c13b0y)
                clear c13
                obtain ⟨ji14, hji14⟩ : ∃ j_ : Int, (wrap64 (8 * x25_2)) = j_ := ⟨_, rfl⟩
                replace H : (if 0 ≤ (ji14) then (if 0 ≤ (wrap64 ((wrap64 (a1 - 1)) - x25_2)) then (if (wrap64 ((wrap64 (a1 - 1)) - x25_2)) < (x6_2.length : Int) then (pack_Number.l0 k2 a0 a1 (x6_2.set ((wrap64 ((wrap64 (a1 - 1)) - x25_2)) : Int).toNat ((shr .u64 a0 (ji14)) % 256)) (y136.length : Int) (wrap64 (x25_2 + 1))) else (none)) else (none)) else (none)) = some (r1, r2) := by first | (rw [hji14] at H; exact H) | (simp only [hji14] at H ⊢; exact H)
                have hji14w : (IntKind.i64.wrap (8 * x25_2)) = ji14 := (i64_w _).trans hji14
                by_cases c15 : 0 ≤ (ji14)
                · rw [if_pos c15] at H
                  have c15b0 := eq_true c15
                  have c15b1 : decide (0 ≤ (ji14)) = true := decide_eq_true c15
                  clear c15
                  obtain ⟨ji16, hji16⟩ : ∃ j_ : Int, (shr .u64 a0 (ji14)) = j_ := ⟨_, rfl⟩
                  replace H : (if 0 ≤ (wrap64 ((wrap64 (a1 - 1)) - x25_2)) then (if (wrap64 ((wrap64 (a1 - 1)) - x25_2)) < (x6_2.length : Int) then (pack_Number.l0 k2 a0 a1 (x6_2.set ((wrap64 ((wrap64 (a1 - 1)) - x25_2)) : Int).toNat ((ji16) % 256)) (y136.length : Int) (wrap64 (x25_2 + 1))) else (none)) else (none)) = some (r1, r2) := by first | (rw [hji16] at H; exact H) | (simp only [hji16] at H ⊢; exact H)
                  have hji16_ : (a0 / 2 ^ min (ji14).toNat 64) = ji16 := hji16
                  have hji16z : (ji14) ≤ 64 → (a0 / 2 ^ (ji14).toNat) = ji16 := shr_small hji16
                  obtain ⟨ji17, hji17⟩ : ∃ j_ : Int, (wrap64 ((wrap64 (a1 - 1)) - x25_2)) = j_ := ⟨_, rfl⟩
                  replace H : (if 0 ≤ (ji17) then (if (ji17) < (x6_2.length : Int) then (pack_Number.l0 k2 a0 a1 (x6_2.set ((ji17) : Int).toNat ((ji16) % 256)) (y136.length : Int) (wrap64 (x25_2 + 1))) else (none)) else (none)) = some (r1, r2) := by first | (rw [hji17] at H; exact H) | (simp only [hji17] at H ⊢; exact H)
                  have hji17w : (IntKind.i64.wrap ((wrap64 (a1 - 1)) - x25_2)) = ji17 := (i64_w _).trans hji17
                  by_cases c18 : 0 ≤ (ji17)
                  · rw [if_pos c18] at H
                    have c18b0 : decide (0 ≤ (ji17)) = true := decide_eq_true c18
                    clear c18
                    by_cases c19 : (ji17) < (x6_2.length : Int)
                    · rw [if_pos c19] at H
                      have c19b0 : decide ((ji17) < (x6_2.length : Int)) = true := decide_eq_true c19
                      try (have c19b0y := c19b0; simp only [hl6_2] at c19b0y)
                      clear c19
                      obtain ⟨y139, hy139⟩ : ∃ y_ : List Int, y_ = (x6_2.set ((ji17) : Int).toNat ((ji16) % 256)) := ⟨_, rfl⟩
                      replace H : (pack_Number.l0 k2 a0 a1 y139 (y136.length : Int) (wrap64 (x25_2 + 1))) = some (r1, r2) := by first | (rw [hy139]; with_reducible exact H) | (have H2_ := (Option.bind_some _ _).symm.trans H; rw [hy139]; with_reducible exact H2_) | (have H2_ := (Option.bind_some _ _).symm.trans H; with_reducible exact H2_) | with_reducible exact H | (rw [hy139]; exact H) | exact H
                      have Ny139 := Aside0.mk hy139
                      clear hy139
                      have H' := Aside0.mk H
                      clear H
                      have p20 : 0 ≤ ((ji17) : Int) := of_decide_eq_true (by first | (with_reducible assumption) | assumption)
                      have q20 : ((ji17) : Int) < ((x6_2.length : Int) : Int) := of_decide_eq_true (by first | (with_reducible assumption) | assumption)
                      obtain ⟨go20, co20, eo20, gb20, gl20, cl20, HG20⟩ := Kd.R_form HO_6.out (by omega)
                      (first | cases eo20 | (injection eo20 with ea_ en_ ec_; (first | subst ea_ | (injection ea_ with ea_; subst ea_)); subst ec_; clear en_))
                      have GB20 := Aside0.mk gb20
                      have GG20 := Aside0.mk HG20
                      clear gb20 gl20 HG20
                      obtain ⟨hx20_0, hf20_0⟩ := Kd.R_celln 0 HO_6.out ((ji17) : Int) p20 q20
                      replace p20 := eq_true p20
                      replace q20 := eq_true q20
                      have HP21 := Kd.R_putg HO_6.out ((ji17) : Int) ((ji16) % 256)
                      go_wp2_with (first | ((with_reducible refine gate_store (t := 5) (p := 38) rfl ?_); refine store_event (t := 5) (p := 38) (v := ?vo_w22) (w1 := (wr.setCell ⟨go20, ((ji17) : Int).toNat, none⟩ (.int .u8 ((ji16) % 256)))) ?hg ?ho ?hn ?hr ?_; (case ho => rfl); (case hg => rfl); (case hn => rfl); (case hr => first | (go_simp; done) | (go_simp; rfl)); intro w22 hw; have hg : wr.grownBy w22 (some go20) := (by rw [hw]; exact HP21.2); have hp_ : Kd.R (Kd.int .u8) 5 w22 w.heap.size (fun _ => True) (.slice (some ⟨go20, 0, none⟩) x6_2.length co12) y139 := (by rw [hw, Ny139.out]; exact HP21.1); clear HP21; replace HO_6 := Aside0.mk (hp_); replace HB := Aside0.mk ((by rw [hw]; exact below_set (HB.out) GB20.out : Below w.heap.size w w22)); clear hg hw hp_))
                      (try simp only [← hl6_2])
                      go_roundg k2
                      case measure => have := HJ2.out; have := HK2.out; omega
                      case rel => exact ⟨(y139), (wrap64 (x25_2 + 1)), (by first | rfl | (simp; done) | (simp [*]; done)), H', ⟨by have := HJ2.out; have := HK2.out; omega⟩, ⟨by (try simp only [hl6_2]); (with_reducible repeat (first | apply Kd.R_alloc | apply Kd.R_drewN | apply Kd.R_drew)); exact HO_6.out⟩, ⟨bel_⟩⟩
                    rw [if_neg c19] at H
                    exact absurd H (by simp)
                  rw [if_neg c18] at H
                  exact absurd H (by simp)
                rw [if_neg c15] at H
                exact absurd H (by simp)
              rw [if_neg c13] at H
              have c13b0 : decide (x25_2 < (y136.length : Int)) = false := decide_eq_false c13
              try (have c13b0y := c13b0; simp only [hl6_2] at c13b0y)
              clear c13
              simp only [Option.some.injEq, Prod.mk.injEq] at H
              obtain ⟨rfl, rfl⟩ := H
              have hcv23 := own_string (P := Tryz.prog) Tryz.underlying40 Tryz.underlying5 Tryz.underlying9 (Kd.own_of_R HO_6.out)
              go_wp2
              go_ret2
              exact ⟨by first | rfl | (simp [errW_none, errW_some] <;> rfl) | (simp [*, errW_none, errW_some] <;> rfl), bel_⟩
        rw [if_neg c9] at H
        exact absurd H (by simp)
      rw [if_neg c8] at H
      exact absurd H (by simp)

end Go.Proofs.YtnngbhdofgodiaaGreatDoor.Z
end

section
-- Printed by a program of this session (mp.py) out of the translation.
namespace Go.Proofs.YtnngbhdofgodiaaGreatDoor.Z
open Go.RowKit Go.Proofs.YtnngbhdofgodiaaGreatDoorW.PrintWords Go.Proofs.YtnngbhdofgodiaaGreatDoorW.PrintLast Go.Proofs.YtnngbhdofgodiaaGreatDoorW.PrintMore
attribute [local go_sem] max2_int min2_int max_two min_two max_three min_three max_four min_four   -- for this text's walks alone
set_option linter.unusedVariables false
set_option linter.unusedSimpArgs false

/-! ### inode_number: function 45 -/
def inode_number.f (k : Nat) (a0 : Int) (a1 : Int) : Option (ByteArray) := (pack_Number.f k a0 a1).bind fun bt140 => (some bt140.1)
theorem inode_number.mono : ∀ a0 a1 k, LeO (inode_number.f k a0 a1) (inode_number.f (k + 1) a0 a1) := by
  intro a0 a1 k
  unfold inode_number.f
  repeat' first
      | (with_reducible exact pack_Number.mono _ _ _)
      | (with_reducible exact LeO.refl _)
      | (with_reducible exact LeO.none _)
      | (with_reducible refine LeO.ite ?_ ?_)
      | (with_reducible refine LeO.bind ?_ (fun _ => ?_))
      | exact pack_Number.mono _ _ _
      | exact LeO.none _
      | refine LeO.ite ?_ ?_
      | refine LeO.bind ?_ (fun _ => ?_)
set_option maxHeartbeats 8000000 in
set_option maxRecDepth 100000 in
theorem inode_number.calls (k : Nat) (a0 : Int) (a1 : Int) (r : ByteArray) (w : World) (h : inode_number.f k a0 a1 = some r) :
    Calls Tryz.prog 45 #[.int .u64 a0, .int .i64 a1] w fun e w' => e = .returned (.string r) ∧ Below w.heap.size w w' := by
  have HB := Aside0.mk (Below.refl w.heap.size w)
  have H : ((pack_Number.f k a0 a1).bind fun bt140 => (some bt140.1)) = some r := h
  clear h
  replace H := Option.bind_eq_some_iff.mp H
  obtain ⟨⟨t140, t141⟩, A30, H⟩ := H
  replace H : (some t140) = some r := H
  have A3 := Aside0.mk A30
  clear A30
  obtain rfl := Option.some.inj H
  go_enter Tryz.func45, Tryz.ntmps45
  go_wp2_with (first | ((with_reducible refine gate_callee (f := 60) rfl ?_); refine gl_ (some 10) Tryz.func60 #[.int .u64 a0, .int .i64 a1] ?_; (with_reducible refine (pack_Number.calls k a0 a1 t140 t141 _ A3.out).mono ?_); rintro e w4 ⟨rfl, hb⟩; refine ⟨_, rfl, ?_⟩; replace HB := hb_ hb; (try clear hb); (try clear hb2); (try clear hk); (try clear hi)))
  go_ret
  exact ⟨by first | rfl | (simp [errW_none, errW_some] <;> rfl) | (simp [*, errW_none, errW_some] <;> rfl), bel_⟩

end Go.Proofs.YtnngbhdofgodiaaGreatDoor.Z
end

section
/- inode.Prefix: a kind's letter and a number. -/
namespace Go.Proofs.YtnngbhdofgodiaaGreatDoor.Z
open Go.RowKit Go.Proofs.YtnngbhdofgodiaaGreatDoorW.PrintWords Go.Proofs.YtnngbhdofgodiaaGreatDoorW.PrintLast Go.Proofs.YtnngbhdofgodiaaGreatDoorW.PrintMore
set_option linter.unusedVariables false
set_option linter.unusedSimpArgs false
attribute [local go_sem ↓] Go.wp_at_zero Go.wp_at_succ
def letterB (k : Int) : ByteArray := if k = 1 then ⟨#[105]⟩ else if k = 2 then ⟨#[100]⟩ else if k = 3 then ⟨#[99]⟩ else if k = 4 then ⟨#[120]⟩ else ⟨#[]⟩
def inode_Prefix.f (k : Nat) (a0 a1 : Int) : Option ByteArray := if 0 ≤ a0 then if letterOf a0 = 0 then some ⟨#[]⟩ else (inode_number.f k (IntKind.u64.wrap a1) 4).bind fun t => if 1 + t.size ≤ 9223372036854775807 then some (letterB a0 ++ t) else none else none
theorem inode_Prefix.mono : ∀ a0 a1 k, LeO (inode_Prefix.f k a0 a1) (inode_Prefix.f (k + 1) a0 a1) := by
  intro a0 a1 k
  unfold inode_Prefix.f
  repeat' first
      | (with_reducible exact inode_number.mono _ _ _)
      | (with_reducible exact LeO.refl _)
      | (with_reducible exact LeO.none _)
      | (with_reducible refine LeO.ite ?_ ?_)
      | (with_reducible refine LeO.bind ?_ (fun _ => ?_))
theorem conv_one (W : World) (g : Nat) (c : Int) (h : W.cell? ⟨g, 0, none⟩ = some (.int .u8 c)) :
    (convert 40 9 (.slice (some ⟨g, 0, none⟩) 1 1)).run Tryz.prog W = .ok (.string ⟨#[UInt8.ofNat c.toNat]⟩) W := by
  have hc : ∀ i, i < 1 → W.cell? ⟨g, 0 + i, none⟩ = some (.int .u8 ([c].getD i 0)) := by
    intro i hi
    match i, hi with
    | 0, _ => exact h
  exact run_convert_bytes_arg (P := Tryz.prog) W 40 5 Tryz.underlying40 Tryz.underlying5 g 0 1 1 [c] rfl hc 9 Tryz.underlying9
set_option maxRecDepth 100000 in
set_option maxHeartbeats 1600000 in
theorem prefix_of (k : Nat) (a0 a1 c : Int) (C : ByteArray) (hC : letterOf a0 = c) (h0 : 0 ≤ a0) (hcC : C = ⟨#[UInt8.ofNat c.toNat]⟩) (hc0 : ¬ c = 0) (t : ByteArray) (ht : inode_number.f k (IntKind.u64.wrap a1) 4 = some t) (hs : 1 + t.size ≤ 9223372036854775807) (w : World) :
    Calls Tryz.prog 28 #[.int .u8 a0, .int .u32 a1] w fun e w' => e = .returned (.string (C ++ t)) ∧ Below w.heap.size w w' := by
  have HL := Aside0.mk (letter w.heap.size a0 h0 (w.alloc (lets 0 0 0 0 0 0 0)) 0 0 0 0 0 0 (blk_new w _) (.inl rfl))
  have HB0 : Aside0 (Below w.heap.size w (w.alloc (lets 0 0 0 0 0 0 0))) := ⟨below_alloc (Below.refl _ _) _⟩
  rw [hC] at HL
  clear hC
  have HT := Aside0.mk ht
  clear ht
  subst hcC
  have s1 : (9223372036854775807 < 1 + t.size) = False := eq_false (by omega)
  have s2 : decide (9223372036854775807 < 1 + t.size) = false := decide_eq_false (by omega)
  have s3 : decide (1 + t.size ≤ 9223372036854775807) = true := decide_eq_true hs
  have e1 : (c == 0) = false := by simp [hc0]
  have hcv : ∀ (W : World) (g : Nat), W.cell? ⟨g, 0, none⟩ = some (.int .u8 c) → (convert 40 9 (.slice (some ⟨g, 0, none⟩) 1 1)).run Tryz.prog W = .ok (.string ⟨#[UInt8.ofNat c.toNat]⟩) W := fun W g h => conv_one W g c h
  go_enter Tryz.func28, Tryz.ntmps28
  go_wp2_with (go_at_call 41; refine HL.out.mono ?_; rintro e w1 ⟨rfl, ⟨hb1, hk1, hB1⟩⟩; have HB1 : Aside0 (Below w.heap.size w w1) := ⟨HB0.out.trans (hB1 _ (Nat.le_refl _) (by simp))⟩; clear hb1 hk1 hB1)
  go_region_with ((go_at_call 45; refine (inode_number.calls k _ 4 t _ HT.out).mono ?_; rintro e w2 ⟨rfl, hb⟩; have hcx := hb.cell (p := ⟨w1.heap.size, 0, none⟩); (try simp at hcx); have HBB := Aside0.mk hb; clear hb))
  all_goals
    go_wp2
    go_ret
    exact ⟨rfl, by repeat (first | with_reducible exact HB1.out | with_reducible apply below_alloc | with_reducible apply below_drew1 | (refine below_step ?_ HBB.out))⟩
set_option maxRecDepth 100000 in
theorem prefix_none (a0 a1 : Int) (hC : letterOf a0 = 0) (h0 : 0 ≤ a0) (w : World) :
    Calls Tryz.prog 28 #[.int .u8 a0, .int .u32 a1] w fun e w' => e = .returned (.string ⟨#[]⟩) ∧ Below w.heap.size w w' := by
  have HL := Aside0.mk (letter w.heap.size a0 h0 (w.alloc (lets 0 0 0 0 0 0 0)) 0 0 0 0 0 0 (blk_new w _) (.inl rfl))
  have HB0 : Aside0 (Below w.heap.size w (w.alloc (lets 0 0 0 0 0 0 0))) := ⟨below_alloc (Below.refl _ _) _⟩
  rw [hC] at HL
  clear hC
  go_enter Tryz.func28, Tryz.ntmps28
  go_wp2_with (go_at_call 41; refine HL.out.mono ?_; rintro e w1 ⟨rfl, ⟨hb1, hk1, hB1⟩⟩; have HB1 : Aside0 (Below w.heap.size w w1) := ⟨HB0.out.trans (hB1 _ (Nat.le_refl _) (by simp))⟩; clear hb1 hk1 hB1)
  go_ret
  exact ⟨rfl, HB1.out⟩
theorem inode_Prefix.calls (k : Nat) (a0 a1 : Int) (r : ByteArray) (w : World) (h : inode_Prefix.f k a0 a1 = some r) :
    Calls Tryz.prog 28 #[.int .u8 a0, .int .u32 a1] w fun e w' => e = .returned (.string r) ∧ Below w.heap.size w w' := by
  unfold inode_Prefix.f at h
  by_cases h0 : 0 ≤ a0
  · rw [if_pos h0] at h
    by_cases hC : letterOf a0 = 0
    · rw [if_pos hC] at h
      obtain rfl := Option.some.inj h
      exact prefix_none a0 a1 hC h0 w
    · rw [if_neg hC] at h
      obtain ⟨t, ht, h⟩ := Option.bind_eq_some_iff.mp h
      split at h
      case isFalse => cases h
      case isTrue hs =>
        obtain rfl := Option.some.inj h
        refine prefix_of k a0 a1 _ (letterB a0) rfl h0 ?_ hC t ht hs w
        unfold letterOf at hC ⊢
        unfold letterB
        repeat' (first | rfl | split | (exfalso; omega))
        all_goals first | rfl | (exfalso; simp_all)
  · rw [if_neg h0] at h
    cases h
end Go.Proofs.YtnngbhdofgodiaaGreatDoor.Z
end

section
-- Printed by a program of this session (mp.py) out of the translation.
namespace Go.Proofs.YtnngbhdofgodiaaGreatDoor.Z
open Go.RowKit Go.Proofs.YtnngbhdofgodiaaGreatDoorW.PrintWords Go.Proofs.YtnngbhdofgodiaaGreatDoorW.PrintLast Go.Proofs.YtnngbhdofgodiaaGreatDoorW.PrintMore
attribute [local go_sem] max2_int min2_int max_two min_two max_three min_three max_four min_four   -- for this text's walks alone
set_option linter.unusedVariables false
set_option linter.unusedSimpArgs false

/-- A state of type 102 at block g of W; what its slices lead to came in by w0. -/
def IsS102 (w0 W : World) (g : Nat) (f0 : Int) (f1 : Int) (f2 : Int) (f3 : Int) (f4 : Int) (f5 : Int) (f6 : Int) (f7 : Int) : Prop := W.heap[g]? = some (.cells #[.int .u32 f0, .int .i32 f1, .int .u32 f2, .int .u8 f3, .int .u8 f4, .int .u8 f5, .int .u8 f6, .int .u8 f7] 102 (0, 0)) ∧ w0.heap.size ≤ g
theorem IsS102.grown {w0 W : World} {g : Nat} {f0 : Int} {f1 : Int} {f2 : Int} {f3 : Int} {f4 : Int} {f5 : Int} {f6 : Int} {f7 : Int} {W1 : World} {row : Option Nat} (h : IsS102 w0 W g f0 f1 f2 f3 f4 f5 f6 f7) (hw : W.grownBy W1 row) (hne : some g ≠ row) : IsS102 w0 W1 g f0 f1 f2 f3 f4 f5 f6 f7 := by
  obtain ⟨hb, hg⟩ := h
  exact ⟨blk_grown hb hw hne, hg⟩
theorem IsS102.own_neN {w0 W : World} {g : Nat} {f0 : Int} {f1 : Int} {f2 : Int} {f3 : Int} {f4 : Int} {f5 : Int} {f6 : Int} {f7 : Int} {α : Type} {d : Kd α} {e : Nat} {base : Nat} {ok : Nat → Prop} {v : Value} {xs : List α} (h : IsS102 w0 W g f0 f1 f2 f3 f4 f5 f6 f7) (ho : Kd.N d e W base ok v xs) (ht : e ≠ 102) : some g ≠ v.ownBlock := by
  obtain ⟨hb, hg⟩ := h
  exact Kd.N_ne ho hb ht
theorem IsS102.fresh {w0 W : World} {g : Nat} {f0 : Int} {f1 : Int} {f2 : Int} {f3 : Int} {f4 : Int} {f5 : Int} {f6 : Int} {f7 : Int} (h : IsS102 w0 W g f0 f1 f2 f3 f4 f5 f6 f7) : ∀ k, W.heap.size ≤ k → k ≠ g := by
  obtain ⟨hb, hg⟩ := h
  exact Kd.freshB hb
theorem IsS102.kept {w0 W : World} {g : Nat} {f0 : Int} {f1 : Int} {f2 : Int} {f3 : Int} {f4 : Int} {f5 : Int} {f6 : Int} {f7 : Int} {W1 : World} {S : Nat → Prop} (h : IsS102 w0 W g f0 f1 f2 f3 f4 f5 f6 f7) (hk : Kept W W1 S) (hne : ¬ S g) : IsS102 w0 W1 g f0 f1 f2 f3 f4 f5 f6 f7 := by
  obtain ⟨hb, hg⟩ := h
  exact ⟨blk_kept hb hk hne, hg⟩
theorem IsS102.below {w0 W : World} {g : Nat} {f0 : Int} {f1 : Int} {f2 : Int} {f3 : Int} {f4 : Int} {f5 : Int} {f6 : Int} {f7 : Int} {W1 : World} (h : IsS102 w0 W g f0 f1 f2 f3 f4 f5 f6 f7) (hw : Below W.heap.size W W1) : IsS102 w0 W1 g f0 f1 f2 f3 f4 f5 f6 f7 := h.grown (grown_of_below hw none) (by simp)
theorem IsS102.alloc {w0 W : World} {g : Nat} {f0 : Int} {f1 : Int} {f2 : Int} {f3 : Int} {f4 : Int} {f5 : Int} {f6 : Int} {f7 : Int} (h : IsS102 w0 W g f0 f1 f2 f3 f4 f5 f6 f7) (o : Obj) : IsS102 w0 (W.alloc o) g f0 f1 f2 f3 f4 f5 f6 f7 := h.below (below_alloc (Below.refl _ _) o)
theorem IsS102.drewN {w0 W : World} {g : Nat} {f0 : Int} {f1 : Int} {f2 : Int} {f3 : Int} {f4 : Int} {f5 : Int} {f6 : Int} {f7 : Int} (h : IsS102 w0 W g f0 f1 f2 f3 f4 f5 f6 f7) (m : Nat) : IsS102 w0 (W.drewN m) g f0 f1 f2 f3 f4 f5 f6 f7 := h
theorem IsS102.drew {w0 W : World} {g : Nat} {f0 : Int} {f1 : Int} {f2 : Int} {f3 : Int} {f4 : Int} {f5 : Int} {f6 : Int} {f7 : Int} (h : IsS102 w0 W g f0 f1 f2 f3 f4 f5 f6 f7) : IsS102 w0 W.drew g f0 f1 f2 f3 f4 f5 f6 f7 := h
theorem IsS102.at_ {w0 W : World} {g : Nat} {f0 : Int} {f1 : Int} {f2 : Int} {f3 : Int} {f4 : Int} {f5 : Int} {f6 : Int} {f7 : Int} {w' : World} {m : Nat} (hq : W.drewN m = w') (h : IsS102 w0 W g f0 f1 f2 f3 f4 f5 f6 f7) : IsS102 w0 w' g f0 f1 f2 f3 f4 f5 f6 f7 := by subst hq; exact IsS102.drewN h m
theorem IsS102.apart {w0 W : World} {g : Nat} {f0 : Int} {f1 : Int} {f2 : Int} {f3 : Int} {f4 : Int} {f5 : Int} {f6 : Int} {f7 : Int} {α : Type} {d : Kd α} {e : Nat} {base : Nat} {ok : Nat → Prop} {v : Value} {xs : List α} (h : IsS102 w0 W g f0 f1 f2 f3 f4 f5 f6 f7) (ho : d.R e W base ok v xs) (ht : ∀ q, q ∈ e :: d.E → q ≠ 102) : d.R e W base (fun k => ok k ∧ k ≠ g) v xs := by
  obtain ⟨hb, hg⟩ := h
  exact Kd.R_types ho hb ht
theorem IsS102.own_ne {w0 W : World} {g : Nat} {f0 : Int} {f1 : Int} {f2 : Int} {f3 : Int} {f4 : Int} {f5 : Int} {f6 : Int} {f7 : Int} {α : Type} {d : Kd α} {e : Nat} {base : Nat} {ok : Nat → Prop} {v : Value} {xs : List α} (h : IsS102 w0 W g f0 f1 f2 f3 f4 f5 f6 f7) (ho : d.R e W base ok v xs) (ht : e ≠ 102) : some g ≠ v.ownBlock := by
  obtain ⟨hb, hg⟩ := h
  exact Kd.R_ne ho hb ht
theorem IsS102.apartQ {w0 W : World} {g : Nat} {f0 : Int} {f1 : Int} {f2 : Int} {f3 : Int} {f4 : Int} {f5 : Int} {f6 : Int} {f7 : Int} {α : Type} {d : Kd α} {e : Nat} {base : Nat} {ok : Nat → Prop} {v : Value} {xs : List α} (h : IsS102 w0 W g f0 f1 f2 f3 f4 f5 f6 f7) (ho : d.Q e W base ok v xs) (ht : ∀ q, q ∈ e :: d.E → q ≠ 102) : d.Q e W base (fun k => ok k ∧ k ≠ g) v xs := by
  obtain ⟨hb, hg⟩ := h
  exact Kd.Q_types ho hb ht
theorem IsS102.own_neQ {w0 W : World} {g : Nat} {f0 : Int} {f1 : Int} {f2 : Int} {f3 : Int} {f4 : Int} {f5 : Int} {f6 : Int} {f7 : Int} {α : Type} {d : Kd α} {e : Nat} {base : Nat} {ok : Nat → Prop} {v : Value} {xs : List α} (h : IsS102 w0 W g f0 f1 f2 f3 f4 f5 f6 f7) (ho : d.Q e W base ok v xs) (ht : e ≠ 102) : some g ≠ v.ownBlock := by
  obtain ⟨hb, hg⟩ := h
  exact Kd.Q_ne ho hb ht
theorem IsS102.apartS {w0 W : World} {g : Nat} {f0 : Int} {f1 : Int} {f2 : Int} {f3 : Int} {f4 : Int} {f5 : Int} {f6 : Int} {f7 : Int} {α : Type} {d : Kd α} {e : Nat} {base : Nat} {ok : Nat → Prop} {v : Value} {xs : List α} (h : IsS102 w0 W g f0 f1 f2 f3 f4 f5 f6 f7) (ho : d.S e W base ok v xs) (ht : ∀ q, q ∈ e :: d.E → q ≠ 102) : d.S e W base (fun k => ok k ∧ k ≠ g) v xs := by
  obtain ⟨hb, hg⟩ := h
  exact Kd.S_types ho hb ht
theorem IsS102.own_neS {w0 W : World} {g : Nat} {f0 : Int} {f1 : Int} {f2 : Int} {f3 : Int} {f4 : Int} {f5 : Int} {f6 : Int} {f7 : Int} {α : Type} {d : Kd α} {e : Nat} {base : Nat} {ok : Nat → Prop} {v : Value} {xs : List α} (h : IsS102 w0 W g f0 f1 f2 f3 f4 f5 f6 f7) (ho : d.S e W base ok v xs) (ht : e ≠ 102) : some g ≠ v.ownBlock := by
  obtain ⟨hb, hg⟩ := h
  exact Kd.S_ne ho hb ht
theorem IsS102.lt {w0 W : World} {g : Nat} {f0 : Int} {f1 : Int} {f2 : Int} {f3 : Int} {f4 : Int} {f5 : Int} {f6 : Int} {f7 : Int} (h : IsS102 w0 W g f0 f1 f2 f3 f4 f5 f6 f7) : g < W.heap.size := by
  obtain ⟨hb, hg⟩ := h
  exact blk_lt hb
theorem IsS102.ge {w0 W : World} {g : Nat} {f0 : Int} {f1 : Int} {f2 : Int} {f3 : Int} {f4 : Int} {f5 : Int} {f6 : Int} {f7 : Int} (h : IsS102 w0 W g f0 f1 f2 f3 f4 f5 f6 f7) : w0.heap.size ≤ g := by
  obtain ⟨hb, hg⟩ := h
  exact hg
theorem IsS102.ne_blk {w0 W : World} {g : Nat} {f0 : Int} {f1 : Int} {f2 : Int} {f3 : Int} {f4 : Int} {f5 : Int} {f6 : Int} {f7 : Int} {a : Nat} {cs : Array Value} {t : TypeId} {fr : Nat × Nat} (h : IsS102 w0 W g f0 f1 f2 f3 f4 f5 f6 f7) (hb2 : W.heap[a]? = some (.cells cs t fr)) (ht : t ≠ 102) : g ≠ a := by
  obtain ⟨hb, hg⟩ := h
  rintro rfl
  rw [hb] at hb2
  injection hb2 with hb2
  injection hb2 with _ ht2
  exact ht ht2.symm
theorem IsS102.far {w0 W : World} {g : Nat} {f0 : Int} {f1 : Int} {f2 : Int} {f3 : Int} {f4 : Int} {f5 : Int} {f6 : Int} {f7 : Int} {p : Addr} (h : IsS102 w0 W g f0 f1 f2 f3 f4 f5 f6 f7) (hne : g ≠ p.block) (u : Value) : IsS102 w0 (W.setCell p u) g f0 f1 f2 f3 f4 f5 f6 f7 := by
  obtain ⟨hb, hg⟩ := h
  exact ⟨blk_far hb hne u, hg⟩
theorem cellS102_0 {W : World} {g : Nat} {f0 : Int} {f1 : Int} {f2 : Int} {f3 : Int} {f4 : Int} {f5 : Int} {f6 : Int} {f7 : Int} (h : W.heap[g]? = some (.cells #[.int .u32 f0, .int .i32 f1, .int .u32 f2, .int .u8 f3, .int .u8 f4, .int .u8 f5, .int .u8 f6, .int .u8 f7] 102 (0, 0))) : W.cell? ⟨g, 0, none⟩ = some (.int .u32 f0) := (blk_cell h 0).trans rfl
theorem IsS102.set_0 {w0 W : World} {g : Nat} {f0 : Int} {f1 : Int} {f2 : Int} {f3 : Int} {f4 : Int} {f5 : Int} {f6 : Int} {f7 : Int} (h : IsS102 w0 W g f0 f1 f2 f3 f4 f5 f6 f7) (x : Int) : IsS102 w0 (W.setCell ⟨g, 0, none⟩ (.int .u32 x)) g x f1 f2 f3 f4 f5 f6 f7 := by
  obtain ⟨hb, hg⟩ := h
  exact ⟨by simpa using blk_set hb 0 (.int .u32 x), hg⟩
theorem cellS102_1 {W : World} {g : Nat} {f0 : Int} {f1 : Int} {f2 : Int} {f3 : Int} {f4 : Int} {f5 : Int} {f6 : Int} {f7 : Int} (h : W.heap[g]? = some (.cells #[.int .u32 f0, .int .i32 f1, .int .u32 f2, .int .u8 f3, .int .u8 f4, .int .u8 f5, .int .u8 f6, .int .u8 f7] 102 (0, 0))) : W.cell? ⟨g, 1, none⟩ = some (.int .i32 f1) := (blk_cell h 1).trans rfl
theorem IsS102.set_1 {w0 W : World} {g : Nat} {f0 : Int} {f1 : Int} {f2 : Int} {f3 : Int} {f4 : Int} {f5 : Int} {f6 : Int} {f7 : Int} (h : IsS102 w0 W g f0 f1 f2 f3 f4 f5 f6 f7) (x : Int) : IsS102 w0 (W.setCell ⟨g, 1, none⟩ (.int .i32 x)) g f0 x f2 f3 f4 f5 f6 f7 := by
  obtain ⟨hb, hg⟩ := h
  exact ⟨by simpa using blk_set hb 1 (.int .i32 x), hg⟩
theorem cellS102_2 {W : World} {g : Nat} {f0 : Int} {f1 : Int} {f2 : Int} {f3 : Int} {f4 : Int} {f5 : Int} {f6 : Int} {f7 : Int} (h : W.heap[g]? = some (.cells #[.int .u32 f0, .int .i32 f1, .int .u32 f2, .int .u8 f3, .int .u8 f4, .int .u8 f5, .int .u8 f6, .int .u8 f7] 102 (0, 0))) : W.cell? ⟨g, 2, none⟩ = some (.int .u32 f2) := (blk_cell h 2).trans rfl
theorem IsS102.set_2 {w0 W : World} {g : Nat} {f0 : Int} {f1 : Int} {f2 : Int} {f3 : Int} {f4 : Int} {f5 : Int} {f6 : Int} {f7 : Int} (h : IsS102 w0 W g f0 f1 f2 f3 f4 f5 f6 f7) (x : Int) : IsS102 w0 (W.setCell ⟨g, 2, none⟩ (.int .u32 x)) g f0 f1 x f3 f4 f5 f6 f7 := by
  obtain ⟨hb, hg⟩ := h
  exact ⟨by simpa using blk_set hb 2 (.int .u32 x), hg⟩
theorem cellS102_3 {W : World} {g : Nat} {f0 : Int} {f1 : Int} {f2 : Int} {f3 : Int} {f4 : Int} {f5 : Int} {f6 : Int} {f7 : Int} (h : W.heap[g]? = some (.cells #[.int .u32 f0, .int .i32 f1, .int .u32 f2, .int .u8 f3, .int .u8 f4, .int .u8 f5, .int .u8 f6, .int .u8 f7] 102 (0, 0))) : W.cell? ⟨g, 3, none⟩ = some (.int .u8 f3) := (blk_cell h 3).trans rfl
theorem IsS102.set_3 {w0 W : World} {g : Nat} {f0 : Int} {f1 : Int} {f2 : Int} {f3 : Int} {f4 : Int} {f5 : Int} {f6 : Int} {f7 : Int} (h : IsS102 w0 W g f0 f1 f2 f3 f4 f5 f6 f7) (x : Int) : IsS102 w0 (W.setCell ⟨g, 3, none⟩ (.int .u8 x)) g f0 f1 f2 x f4 f5 f6 f7 := by
  obtain ⟨hb, hg⟩ := h
  exact ⟨by simpa using blk_set hb 3 (.int .u8 x), hg⟩
theorem cellS102_4 {W : World} {g : Nat} {f0 : Int} {f1 : Int} {f2 : Int} {f3 : Int} {f4 : Int} {f5 : Int} {f6 : Int} {f7 : Int} (h : W.heap[g]? = some (.cells #[.int .u32 f0, .int .i32 f1, .int .u32 f2, .int .u8 f3, .int .u8 f4, .int .u8 f5, .int .u8 f6, .int .u8 f7] 102 (0, 0))) : W.cell? ⟨g, 4, none⟩ = some (.int .u8 f4) := (blk_cell h 4).trans rfl
theorem IsS102.set_4 {w0 W : World} {g : Nat} {f0 : Int} {f1 : Int} {f2 : Int} {f3 : Int} {f4 : Int} {f5 : Int} {f6 : Int} {f7 : Int} (h : IsS102 w0 W g f0 f1 f2 f3 f4 f5 f6 f7) (x : Int) : IsS102 w0 (W.setCell ⟨g, 4, none⟩ (.int .u8 x)) g f0 f1 f2 f3 x f5 f6 f7 := by
  obtain ⟨hb, hg⟩ := h
  exact ⟨by simpa using blk_set hb 4 (.int .u8 x), hg⟩
theorem cellS102_5 {W : World} {g : Nat} {f0 : Int} {f1 : Int} {f2 : Int} {f3 : Int} {f4 : Int} {f5 : Int} {f6 : Int} {f7 : Int} (h : W.heap[g]? = some (.cells #[.int .u32 f0, .int .i32 f1, .int .u32 f2, .int .u8 f3, .int .u8 f4, .int .u8 f5, .int .u8 f6, .int .u8 f7] 102 (0, 0))) : W.cell? ⟨g, 5, none⟩ = some (.int .u8 f5) := (blk_cell h 5).trans rfl
theorem IsS102.set_5 {w0 W : World} {g : Nat} {f0 : Int} {f1 : Int} {f2 : Int} {f3 : Int} {f4 : Int} {f5 : Int} {f6 : Int} {f7 : Int} (h : IsS102 w0 W g f0 f1 f2 f3 f4 f5 f6 f7) (x : Int) : IsS102 w0 (W.setCell ⟨g, 5, none⟩ (.int .u8 x)) g f0 f1 f2 f3 f4 x f6 f7 := by
  obtain ⟨hb, hg⟩ := h
  exact ⟨by simpa using blk_set hb 5 (.int .u8 x), hg⟩
theorem cellS102_6 {W : World} {g : Nat} {f0 : Int} {f1 : Int} {f2 : Int} {f3 : Int} {f4 : Int} {f5 : Int} {f6 : Int} {f7 : Int} (h : W.heap[g]? = some (.cells #[.int .u32 f0, .int .i32 f1, .int .u32 f2, .int .u8 f3, .int .u8 f4, .int .u8 f5, .int .u8 f6, .int .u8 f7] 102 (0, 0))) : W.cell? ⟨g, 6, none⟩ = some (.int .u8 f6) := (blk_cell h 6).trans rfl
theorem IsS102.set_6 {w0 W : World} {g : Nat} {f0 : Int} {f1 : Int} {f2 : Int} {f3 : Int} {f4 : Int} {f5 : Int} {f6 : Int} {f7 : Int} (h : IsS102 w0 W g f0 f1 f2 f3 f4 f5 f6 f7) (x : Int) : IsS102 w0 (W.setCell ⟨g, 6, none⟩ (.int .u8 x)) g f0 f1 f2 f3 f4 f5 x f7 := by
  obtain ⟨hb, hg⟩ := h
  exact ⟨by simpa using blk_set hb 6 (.int .u8 x), hg⟩
theorem cellS102_7 {W : World} {g : Nat} {f0 : Int} {f1 : Int} {f2 : Int} {f3 : Int} {f4 : Int} {f5 : Int} {f6 : Int} {f7 : Int} (h : W.heap[g]? = some (.cells #[.int .u32 f0, .int .i32 f1, .int .u32 f2, .int .u8 f3, .int .u8 f4, .int .u8 f5, .int .u8 f6, .int .u8 f7] 102 (0, 0))) : W.cell? ⟨g, 7, none⟩ = some (.int .u8 f7) := (blk_cell h 7).trans rfl
theorem IsS102.set_7 {w0 W : World} {g : Nat} {f0 : Int} {f1 : Int} {f2 : Int} {f3 : Int} {f4 : Int} {f5 : Int} {f6 : Int} {f7 : Int} (h : IsS102 w0 W g f0 f1 f2 f3 f4 f5 f6 f7) (x : Int) : IsS102 w0 (W.setCell ⟨g, 7, none⟩ (.int .u8 x)) g f0 f1 f2 f3 f4 f5 f6 x := by
  obtain ⟨hb, hg⟩ := h
  exact ⟨by simpa using blk_set hb 7 (.int .u8 x), hg⟩
theorem IsS102.new (w0 W : World) (f0 : Int) (f1 : Int) (f2 : Int) (f3 : Int) (f4 : Int) (f5 : Int) (f6 : Int) (f7 : Int) (hB : Below w0.heap.size w0 W) : IsS102 w0 (W.alloc (.cells #[.int .u32 f0, .int .i32 f1, .int .u32 f2, .int .u8 f3, .int .u8 f4, .int .u8 f5, .int .u8 f6, .int .u8 f7] 102)) W.heap.size f0 f1 f2 f3 f4 f5 f6 f7 := ⟨by simpa using heap_alloc_new W _, hB.size⟩

end Go.Proofs.YtnngbhdofgodiaaGreatDoor.Z
end

section
/- (*letters).letter, as a call that is handed its letters. -/
namespace Go.Proofs.YtnngbhdofgodiaaGreatDoor.Z
open Go.RowKit Go.Proofs.YtnngbhdofgodiaaGreatDoorW.PrintWords Go.Proofs.YtnngbhdofgodiaaGreatDoorW.PrintLast
set_option linter.unusedVariables false
def inode_letters_letter.f (d m s c0 c1 c2 c3 c4 k : Int) : Option (Int × Int × Int × Int × Int × Int × Int × Int × Int) :=
  if 0 ≤ k ∧ m = 0 ∧ c0 = 0 ∧ (d = 0 ∨ d = 1 ∧ c1 = 105 ∧ c2 = 100 ∧ c3 = 99 ∧ c4 = 120) then some (letterOf k, 1, 0, s, 0, 105, 100, 99, 120) else none
theorem inode_letters_letter.calls (g : Nat) (d m s c0 c1 c2 c3 c4 k : Int) (r1 r2 r3 r4 r5 r6 r7 r8 r9 : Int) (w0 w : World) (hI : IsS102 w0 w g d m s c0 c1 c2 c3 c4) (hB : Below w0.heap.size w0 w)
    (h : inode_letters_letter.f d m s c0 c1 c2 c3 c4 k = some (r1, r2, r3, r4, r5, r6, r7, r8, r9)) :
    Calls Tryz.prog 41 #[.pointer (some ⟨g, 0, none⟩), .int .u8 k] w fun e w' => e = .returned (.int .u8 r1) ∧ IsS102 w0 w' g r2 r3 r4 r5 r6 r7 r8 r9 ∧ Below w0.heap.size w0 w' ∧ KeepBut w w' g none := by
  unfold inode_letters_letter.f at h
  split at h
  case isFalse => cases h
  case isTrue hs =>
    obtain ⟨hk, rfl, rfl, hd⟩ := hs
    simp only [Option.some.injEq, Prod.mk.injEq] at h
    obtain ⟨rfl, rfl, rfl, rfl, rfl, rfl, rfl, rfl, rfl⟩ := h
    obtain ⟨hb, hg⟩ := hI
    refine (letter g k hk w d s c1 c2 c3 c4 hb hd).mono ?_
    rintro e w' ⟨he, h1, h2, h3⟩
    exact ⟨he, ⟨h1, hg⟩, hB.trans (h3 _ hg hB.size), h2⟩
end Go.Proofs.YtnngbhdofgodiaaGreatDoor.Z
end

section
-- Printed by a program of this session (mp.py) out of the translation.
namespace Go.Proofs.YtnngbhdofgodiaaGreatDoor.Z
open Go.RowKit Go.Proofs.YtnngbhdofgodiaaGreatDoorW.PrintWords Go.Proofs.YtnngbhdofgodiaaGreatDoorW.PrintLast Go.Proofs.YtnngbhdofgodiaaGreatDoorW.PrintMore
attribute [local go_sem] max2_int min2_int max_two min_two max_three min_three max_four min_four   -- for this text's walks alone
set_option linter.unusedVariables false
set_option linter.unusedSimpArgs false

/-! ### inode_right: function 58 -/
def inode_right.j0 : Nat → Bool → Int → Bool → Int → Int → ByteArray → Int → Option (Bool)
  | 0, _, _, _, _, _, _, _ => none
  | k + 1, x3, x8, x22, x148000, x148001, x148002, x148003 => if x22 = true then (if x3 = true then ((path_Name.f x148002).bind fun t148 => (if t148 = true then (some (x148003 == 0)) else (some false))) else (some false)) else (if x8 = 3 then (if x3 = true then (if x148002.toList = ([] : List UInt8) then (some (decide (x148003 < 512))) else (some false)) else (some false)) else (some false))
def inode_right.f (k : Nat) (a0_0 : Int) (a0_1 : Int) (a0_2 : ByteArray) (a0_3 : Int) : Option (Bool) := if a0_0 = 1 then (if a0_1 > 0 then (if a0_2.toList = ([] : List UInt8) then (some (a0_3 == 0)) else (some false)) else (some false)) else (if a0_0 = 2 then (inode_right.j0 k (decide (a0_1 > 0)) a0_0 (a0_0 == 2) a0_0 a0_1 a0_2 a0_3) else (inode_right.j0 k (decide (a0_1 > 0)) a0_0 (a0_0 == 4) a0_0 a0_1 a0_2 a0_3))
theorem inode_right.mono_l : ∀ k, (∀ y0 y1 y2 y3 y4 y5 y6, LeO (inode_right.j0 k y0 y1 y2 y3 y4 y5 y6) (inode_right.j0 (k + 1) y0 y1 y2 y3 y4 y5 y6))
  | 0 => fun _ _ _ _ _ _ _ r h => by simp [inode_right.j0] at h
  | k + 1 => by
    have ih0 := inode_right.mono_l k
    · intro y0 y1 y2 y3 y4 y5 y6
      unfold inode_right.j0
      repeat' first
      | (with_reducible exact ih0 _ _ _ _ _ _ _)
      | (with_reducible exact LeO.refl _)
      | (with_reducible exact LeO.none _)
      | (with_reducible refine LeO.ite ?_ ?_)
      | (with_reducible refine LeO.bind ?_ (fun _ => ?_))
      | exact ih0 _ _ _ _ _ _ _
      | exact LeO.none _
      | refine LeO.ite ?_ ?_
      | refine LeO.bind ?_ (fun _ => ?_)
theorem inode_right.mono : ∀ a0 a1 a2 a3 k, LeO (inode_right.f k a0 a1 a2 a3) (inode_right.f (k + 1) a0 a1 a2 a3) := by
  intro a0 a1 a2 a3 k
  have ih0 := inode_right.mono_l k
  unfold inode_right.f
  repeat' first
      | (with_reducible exact ih0 _ _ _ _ _ _ _)
      | (with_reducible exact LeO.refl _)
      | (with_reducible exact LeO.none _)
      | (with_reducible refine LeO.ite ?_ ?_)
      | (with_reducible refine LeO.bind ?_ (fun _ => ?_))
      | exact ih0 _ _ _ _ _ _ _
      | exact LeO.none _
      | refine LeO.ite ?_ ?_
      | refine LeO.bind ?_ (fun _ => ?_)
set_option maxHeartbeats 8000000 in
set_option maxRecDepth 100000 in
theorem inode_right.calls (k : Nat) (a0_0 : Int) (a0_1 : Int) (a0_2 : ByteArray) (a0_3 : Int) (r : Bool) (w : World) (h : inode_right.f k a0_0 a0_1 a0_2 a0_3 = some r) :
    Calls Tryz.prog 58 #[.agg #[.int .u8 a0_0, .int .u32 a0_1, .string a0_2, .int .u32 a0_3]] w fun e w' => e = .returned (.bool r) ∧ Below w.heap.size w w' := by
  have hu71 := Tryz.underlying71
  have HB := Aside0.mk (Below.refl w.heap.size w)
  have H : (if a0_0 = 1 then (if a0_1 > 0 then (if a0_2.toList = ([] : List UInt8) then (some (a0_3 == 0)) else (some false)) else (some false)) else (if a0_0 = 2 then (inode_right.j0 k (decide (a0_1 > 0)) a0_0 (a0_0 == 2) a0_0 a0_1 a0_2 a0_3) else (inode_right.j0 k (decide (a0_1 > 0)) a0_0 (a0_0 == 4) a0_0 a0_1 a0_2 a0_3))) = some r := h
  clear h
  by_cases c2 : a0_0 = 1
  · rw [if_pos c2] at H
    have c2b0 : (a0_0 == 1) = true := beq_iff_eq.mpr c2
    have c2b1 : (a0_0 != 1) = false := bne_eq_false_iff_eq.mpr c2
    clear c2
    by_cases c3 : a0_1 > 0
    · rw [if_pos c3] at H
      have c3b0 : decide (0 < a0_1) = true := decide_eq_true c3
      clear c3
      by_cases c4 : a0_2.toList = ([] : List UInt8)
      · rw [if_pos c4] at H
        have c4b0 : (a0_2.toList == ([] : List UInt8)) = true := beq_iff_eq.mpr c4
        have c4b1 : (a0_2.toList != ([] : List UInt8)) = false := bne_eq_false_iff_eq.mpr c4
        clear c4
        obtain rfl := Option.some.inj H
        go_enter Tryz.func58, Tryz.ntmps58
        go_wp2_with (first | ((with_reducible refine gate_dst (N := 1) rfl ?_); refine bx_ (N := 1) (cs := #[.int .u8 a0_0, .int .u32 a0_1, .string a0_2, .int .u32 a0_3]) (t := 71) ?_; intro gb147 hg w5 hbox hb; have BK147 := Aside0.mk (hbox); have GW147 := ge_ hg; have GE147 := ge_ hg; replace HB := hb_ hb; clear hb hbox hg; obtain ⟨hcz6_0, hcz6_1, hcz6_2, hcz6_3⟩ := cl4_ BK147; obtain ⟨hfz6_0, hfz6_1, hfz6_2, hfz6_3⟩ := fz4_ BK147))
        go_ret
        exact ⟨by first | rfl | (simp [errW_none, errW_some] <;> rfl) | (simp [*, errW_none, errW_some] <;> rfl), bel_⟩
      rw [if_neg c4] at H
      have c4b0 : (a0_2.toList == ([] : List UInt8)) = false := beq_eq_false_iff_ne.mpr c4
      have c4b1 : (a0_2.toList != ([] : List UInt8)) = true := bne_iff_ne.mpr c4
      obtain rfl := Option.some.inj H
      go_enter Tryz.func58, Tryz.ntmps58
      go_wp2_with (first | ((with_reducible refine gate_dst (N := 1) rfl ?_); refine bx_ (N := 1) (cs := #[.int .u8 a0_0, .int .u32 a0_1, .string a0_2, .int .u32 a0_3]) (t := 71) ?_; intro gb147 hg w7 hbox hb; have BK147 := Aside0.mk (hbox); have GW147 := ge_ hg; have GE147 := ge_ hg; replace HB := hb_ hb; clear hb hbox hg; obtain ⟨hcz8_0, hcz8_1, hcz8_2, hcz8_3⟩ := cl4_ BK147; obtain ⟨hfz8_0, hfz8_1, hfz8_2, hfz8_3⟩ := fz4_ BK147))
      go_ret
      exact ⟨by first | rfl | (simp [errW_none, errW_some] <;> rfl) | (simp [*, errW_none, errW_some] <;> rfl), bel_⟩
    rw [if_neg c3] at H
    have c3b0 : decide (0 < a0_1) = false := decide_eq_false c3
    clear c3
    obtain rfl := Option.some.inj H
    go_enter Tryz.func58, Tryz.ntmps58
    go_wp2_with (first | ((with_reducible refine gate_dst (N := 1) rfl ?_); refine bx_ (N := 1) (cs := #[.int .u8 a0_0, .int .u32 a0_1, .string a0_2, .int .u32 a0_3]) (t := 71) ?_; intro gb147 hg w9 hbox hb; have BK147 := Aside0.mk (hbox); have GW147 := ge_ hg; have GE147 := ge_ hg; replace HB := hb_ hb; clear hb hbox hg; obtain ⟨hcz10_0, hcz10_1, hcz10_2, hcz10_3⟩ := cl4_ BK147; obtain ⟨hfz10_0, hfz10_1, hfz10_2, hfz10_3⟩ := fz4_ BK147))
    go_ret
    exact ⟨by first | rfl | (simp [errW_none, errW_some] <;> rfl) | (simp [*, errW_none, errW_some] <;> rfl), bel_⟩
  rw [if_neg c2] at H
  have c2b0 : (a0_0 == 1) = false := beq_eq_false_iff_ne.mpr c2
  have c2b1 : (a0_0 != 1) = true := bne_iff_ne.mpr c2
  have HC11 := Aside0.mk H
  clear H
  go_enter Tryz.func58, Tryz.ntmps58
  go_upto_if 22 with (first | ((with_reducible refine gate_dst (N := 1) rfl ?_); refine bx_ (N := 1) (cs := #[.int .u8 a0_0, .int .u32 a0_1, .string a0_2, .int .u32 a0_3]) (t := 71) ?_; intro gb147 hg w12 hbox hb; have n0_ := Aside0.mk (below_step bel_ hb); have n1_ := Aside0.mk (hbox); have n2_ := Aside0.mk ((by rw [hg]; exact (below_size bel_) : w.heap.size ≤ gb147)); have n3_ := Aside0.mk ((by rw [hg]; exact (below_size bel_) : w.heap.size ≤ gb147)); clear HB; have HB := n0_; have BK147 := n1_; have GW147 := n2_; have GE147 := n3_; clear n0_ n1_ n2_ n3_; clear hb hbox hg; have hcz13_0 : w12.cell? ⟨gb147, 0, none⟩ = some (.int .u8 a0_0) := (blk_cell BK147.out 0).trans rfl; have hcz13_1 : w12.cell? ⟨gb147, 1, none⟩ = some (.int .u32 a0_1) := (blk_cell BK147.out 1).trans rfl; have hcz13_2 : w12.cell? ⟨gb147, 2, none⟩ = some (.string a0_2) := (blk_cell BK147.out 2).trans rfl; have hcz13_3 : w12.cell? ⟨gb147, 3, none⟩ = some (.int .u32 a0_3) := (blk_cell BK147.out 3).trans rfl; have hfz13_0 := blk_frozen BK147.out 0; have hfz13_1 := blk_frozen BK147.out 1; have hfz13_2 := blk_frozen BK147.out 2; have hfz13_3 := blk_frozen BK147.out 3))
  (try simp only [Act.put, List.setIfInBounds_toArray, List.set_cons_zero, List.set_cons_succ])
  go_cut [22] (fun v22 wc => ∃ (kq : Nat) (x22_10 : Bool), v22 = .bool x22_10 ∧ Aside0 (inode_right.j0 kq (decide (a0_1 > 0)) a0_0 x22_10 a0_0 a0_1 a0_2 a0_3 = some r) ∧ Aside0 (kq ≤ k) ∧ Aside0 (wc.heap[gb147]? = some (.cells #[.int .u8 a0_0, .int .u32 a0_1, .string a0_2, .int .u32 a0_3] 71 (0, 0))) ∧ Aside0 (Below w.heap.size w wc))
  case first =>
    have H := HC11.out
    clear HC11
    by_cases c14 : a0_0 = 2
    · rw [if_pos c14] at H
      have c14b0 : (a0_0 == 2) = true := beq_iff_eq.mpr c14
      have c14b1 : (a0_0 != 2) = false := bne_eq_false_iff_eq.mpr c14
      clear c14
      (first | rw [c14b0] | (simp only [i64_w, i32_w]; rw [c14b0]) | skip)
      have H' := Aside0.mk H
      clear H
      go_wp2
      go_meet
      case rel => exact ⟨_, ((a0_0 == 2)), (by first | rfl | (simp; done) | (simp [*]; done)), H', ⟨by first | omega | exact Nat.le_refl _⟩, ⟨bk_ BK147⟩, ⟨bel_⟩⟩
    rw [if_neg c14] at H
    have c14b0 : (a0_0 == 2) = false := beq_eq_false_iff_ne.mpr c14
    have c14b1 : (a0_0 != 2) = true := bne_iff_ne.mpr c14
    (first | rw [c14b0] | (simp only [i64_w, i32_w]; rw [c14b0]) | skip)
    have H' := Aside0.mk H
    clear H
    go_wp2
    go_meet
    case rel => exact ⟨_, ((a0_0 == 4)), (by first | rfl | (simp; done) | (simp [*]; done)), H', ⟨by first | omega | exact Nat.le_refl _⟩, ⟨bk_ BK147⟩, ⟨bel_⟩⟩
  case rest =>
    clear HC11
    try clear c1
    try clear c2
    try clear c2b0
    try clear c2b1
    try clear p2
    try clear c3
    try clear c3b0
    try clear c4
    try clear c4b0
    try clear c4b1
    try clear c5
    try clear c14
    try clear c14b0
    try clear c14b1
    try clear hcz10_0
    try clear hcz10_1
    try clear hcz10_2
    try clear hcz10_3
    try clear hcz13_0
    try clear hcz13_1
    try clear hcz13_2
    try clear hcz13_3
    try clear hcz6_0
    try clear hcz6_1
    try clear hcz6_2
    try clear hcz6_3
    try clear hcz8_0
    try clear hcz8_1
    try clear hcz8_2
    try clear hcz8_3
    try clear hfz10_0
    try clear hfz10_1
    try clear hfz10_2
    try clear hfz10_3
    try clear hfz13_0
    try clear hfz13_1
    try clear hfz13_2
    try clear hfz13_3
    try clear hfz6_0
    try clear hfz6_1
    try clear hfz6_2
    try clear hfz6_3
    try clear hfz8_0
    try clear hfz8_1
    try clear hfz8_2
    try clear hfz8_3
    obtain ⟨kq, x22_10, rfl, HA, HJ10, BK147, HB⟩ := hcut
    cases kq with
    | zero => exact absurd HA.out (by simp [inode_right.j0])
    | succ kj10 =>
      have H := HA.out
      clear HA
      simp only [inode_right.j0] at H
      by_cases c15 : x22_10 = true
      · subst c15
        have H1 : (if (decide (a0_1 > 0)) = true then ((path_Name.f a0_2).bind fun t148 => (if t148 = true then (some (a0_3 == 0)) else (some false))) else (some false)) = some r := by rw [if_pos rfl] at H; exact H
        clear H
        have H := H1
        clear H1
        by_cases c16 : (decide (a0_1 > 0)) = true
        · rw [if_pos c16] at H
          have c16b0 : (decide (a0_1 > 0)) = true := c16
          clear c16
          replace H := Option.bind_eq_some_iff.mp H
          obtain ⟨t148, A170, H⟩ := H
          replace H : (if t148 = true then (some (a0_3 == 0)) else (some false)) = some r := H
          have A17 := Aside0.mk A170
          clear A170
          by_cases c18 : t148 = true
          · subst c18
            have H1 : (some (a0_3 == 0)) = some r := by rw [if_pos rfl] at H; exact H
            clear H
            have H := H1
            clear H1
            obtain rfl := Option.some.inj H
            obtain ⟨hcz19_0, hcz19_1, hcz19_2, hcz19_3⟩ := cl4_ BK147
            obtain ⟨hfz19_0, hfz19_1, hfz19_2, hfz19_3⟩ := fz4_ BK147
            go_wp2_with (first | (go_at_call 67; (with_reducible refine (path_Name.calls a0_2 true _ A17.out).mono ?_); rintro e w' ⟨rfl, ⟨nd, rfl⟩⟩))
            go_ret
            exact ⟨by first | rfl | (simp [errW_none, errW_some] <;> rfl) | (simp [*, errW_none, errW_some] <;> rfl), bel_⟩
          replace c18 := Bool.eq_false_iff.mpr c18
          subst c18
          have H1 : (some false) = some r := by rw [if_neg (show ¬ (false = true) by decide)] at H; exact H
          clear H
          have H := H1
          clear H1
          obtain rfl := Option.some.inj H
          obtain ⟨hcz20_0, hcz20_1, hcz20_2, hcz20_3⟩ := cl4_ BK147
          obtain ⟨hfz20_0, hfz20_1, hfz20_2, hfz20_3⟩ := fz4_ BK147
          go_wp2_with (first | (go_at_call 67; (with_reducible refine (path_Name.calls a0_2 false _ A17.out).mono ?_); rintro e w' ⟨rfl, ⟨nd, rfl⟩⟩))
          go_ret
          exact ⟨by first | rfl | (simp [errW_none, errW_some] <;> rfl) | (simp [*, errW_none, errW_some] <;> rfl), bel_⟩
        rw [if_neg c16] at H
        have c16b0 : (decide (a0_1 > 0)) = false := by simpa using c16
        clear c16
        obtain rfl := Option.some.inj H
        go_wp2
        go_ret
        exact ⟨by first | rfl | (simp [errW_none, errW_some] <;> rfl) | (simp [*, errW_none, errW_some] <;> rfl), bel_⟩
      replace c15 := Bool.eq_false_iff.mpr c15
      subst c15
      have H1 : (if a0_0 = 3 then (if (decide (a0_1 > 0)) = true then (if a0_2.toList = ([] : List UInt8) then (some (decide (a0_3 < 512))) else (some false)) else (some false)) else (some false)) = some r := by rw [if_neg (show ¬ (false = true) by decide)] at H; exact H
      clear H
      have H := H1
      clear H1
      by_cases c21 : a0_0 = 3
      · rw [if_pos c21] at H
        have c21b0 : (a0_0 == 3) = true := beq_iff_eq.mpr c21
        have c21b1 : (a0_0 != 3) = false := bne_eq_false_iff_eq.mpr c21
        clear c21
        by_cases c22 : (decide (a0_1 > 0)) = true
        · rw [if_pos c22] at H
          have c22b0 : (decide (a0_1 > 0)) = true := c22
          clear c22
          by_cases c23 : a0_2.toList = ([] : List UInt8)
          · rw [if_pos c23] at H
            have c23b0 : (a0_2.toList == ([] : List UInt8)) = true := beq_iff_eq.mpr c23
            have c23b1 : (a0_2.toList != ([] : List UInt8)) = false := bne_eq_false_iff_eq.mpr c23
            clear c23
            obtain rfl := Option.some.inj H
            obtain ⟨hcz24_0, hcz24_1, hcz24_2, hcz24_3⟩ := cl4_ BK147
            obtain ⟨hfz24_0, hfz24_1, hfz24_2, hfz24_3⟩ := fz4_ BK147
            go_wp2
            go_ret
            exact ⟨by first | rfl | (simp [errW_none, errW_some] <;> rfl) | (simp [*, errW_none, errW_some] <;> rfl), bel_⟩
          rw [if_neg c23] at H
          have c23b0 : (a0_2.toList == ([] : List UInt8)) = false := beq_eq_false_iff_ne.mpr c23
          have c23b1 : (a0_2.toList != ([] : List UInt8)) = true := bne_iff_ne.mpr c23
          obtain rfl := Option.some.inj H
          obtain ⟨hcz25_0, hcz25_1, hcz25_2, hcz25_3⟩ := cl4_ BK147
          obtain ⟨hfz25_0, hfz25_1, hfz25_2, hfz25_3⟩ := fz4_ BK147
          go_wp2
          go_ret
          exact ⟨by first | rfl | (simp [errW_none, errW_some] <;> rfl) | (simp [*, errW_none, errW_some] <;> rfl), bel_⟩
        rw [if_neg c22] at H
        have c22b0 : (decide (a0_1 > 0)) = false := by simpa using c22
        clear c22
        obtain rfl := Option.some.inj H
        go_wp2
        go_ret
        exact ⟨by first | rfl | (simp [errW_none, errW_some] <;> rfl) | (simp [*, errW_none, errW_some] <;> rfl), bel_⟩
      rw [if_neg c21] at H
      have c21b0 : (a0_0 == 3) = false := beq_eq_false_iff_ne.mpr c21
      have c21b1 : (a0_0 != 3) = true := bne_iff_ne.mpr c21
      obtain rfl := Option.some.inj H
      go_wp2
      go_ret
      exact ⟨by first | rfl | (simp [errW_none, errW_some] <;> rfl) | (simp [*, errW_none, errW_some] <;> rfl), bel_⟩

end Go.Proofs.YtnngbhdofgodiaaGreatDoor.Z
end

section
-- Printed by a program of this session (mp.py) out of the translation.
namespace Go.Proofs.YtnngbhdofgodiaaGreatDoor.Z
open Go.RowKit Go.Proofs.YtnngbhdofgodiaaGreatDoorW.PrintWords Go.Proofs.YtnngbhdofgodiaaGreatDoorW.PrintLast Go.Proofs.YtnngbhdofgodiaaGreatDoorW.PrintMore
attribute [local go_sem] max2_int min2_int max_two min_two max_three min_three max_four min_four   -- for this text's walks alone
set_option linter.unusedVariables false
set_option linter.unusedSimpArgs false

/-! ### inode_Key: function 43 -/
def inode_Key.f (k : Nat) (a0_0 : Int) (a0_1 : Int) (a0_2 : ByteArray) (a0_3 : Int) : Option (ByteArray × Int) := (inode_right.f k a0_0 a0_1 a0_2 a0_3).bind fun t150 => (if t150 = true then ((inode_Prefix.f k a0_0 a0_1).bind fun t151 => (if a0_0 = 3 then ((inode_number.f k (IntKind.u64.wrap (a0_3)) 4).bind fun t152 => (if t151.size + t152.size ≤ 9223372036854775807 then (some (t151 ++ t152, 0)) else (none))) else (if t151.size + a0_2.size ≤ 9223372036854775807 then (some (t151 ++ a0_2, 0)) else (none)))) else (some ((⟨#[]⟩ : ByteArray), 4)))
theorem inode_Key.mono : ∀ a0 a1 a2 a3 k, LeO (inode_Key.f k a0 a1 a2 a3) (inode_Key.f (k + 1) a0 a1 a2 a3) := by
  intro a0 a1 a2 a3 k
  unfold inode_Key.f
  repeat' first
      | (with_reducible exact inode_Prefix.mono _ _ _)
      | (with_reducible exact inode_number.mono _ _ _)
      | (with_reducible exact inode_right.mono _ _ _ _ _)
      | (with_reducible exact LeO.refl _)
      | (with_reducible exact LeO.none _)
      | (with_reducible refine LeO.ite ?_ ?_)
      | (with_reducible refine LeO.bind ?_ (fun _ => ?_))
      | exact inode_Prefix.mono _ _ _
      | exact inode_number.mono _ _ _
      | exact inode_right.mono _ _ _ _ _
      | exact LeO.none _
      | refine LeO.ite ?_ ?_
      | refine LeO.bind ?_ (fun _ => ?_)
set_option maxHeartbeats 8000000 in
set_option maxRecDepth 100000 in
theorem inode_Key.calls (k : Nat) (a0_0 : Int) (a0_1 : Int) (a0_2 : ByteArray) (a0_3 : Int) (r1 : ByteArray) (r2 : Int) (w : World) (h : inode_Key.f k a0_0 a0_1 a0_2 a0_3 = some (r1, r2)) :
    Calls Tryz.prog 43 #[.agg #[.int .u8 a0_0, .int .u32 a0_1, .string a0_2, .int .u32 a0_3]] w fun e w' => e = .returned (.tuple #[.string r1, .int .i64 r2]) ∧ Below w.heap.size w w' := by
  have hu71 := Tryz.underlying71
  have HB := Aside0.mk (Below.refl w.heap.size w)
  have H : ((inode_right.f k a0_0 a0_1 a0_2 a0_3).bind fun t150 => (if t150 = true then ((inode_Prefix.f k a0_0 a0_1).bind fun t151 => (if a0_0 = 3 then ((inode_number.f k (IntKind.u64.wrap (a0_3)) 4).bind fun t152 => (if t151.size + t152.size ≤ 9223372036854775807 then (some (t151 ++ t152, 0)) else (none))) else (if t151.size + a0_2.size ≤ 9223372036854775807 then (some (t151 ++ a0_2, 0)) else (none)))) else (some ((⟨#[]⟩ : ByteArray), 4)))) = some (r1, r2) := h
  clear h
  replace H := Option.bind_eq_some_iff.mp H
  obtain ⟨t150, A20, H⟩ := H
  replace H : (if t150 = true then ((inode_Prefix.f k a0_0 a0_1).bind fun t151 => (if a0_0 = 3 then ((inode_number.f k (IntKind.u64.wrap (a0_3)) 4).bind fun t152 => (if t151.size + t152.size ≤ 9223372036854775807 then (some (t151 ++ t152, 0)) else (none))) else (if t151.size + a0_2.size ≤ 9223372036854775807 then (some (t151 ++ a0_2, 0)) else (none)))) else (some ((⟨#[]⟩ : ByteArray), 4))) = some (r1, r2) := H
  have A2 := Aside0.mk A20
  clear A20
  by_cases c3 : t150 = true
  · subst c3
    have H1 : ((inode_Prefix.f k a0_0 a0_1).bind fun t151 => (if a0_0 = 3 then ((inode_number.f k (IntKind.u64.wrap (a0_3)) 4).bind fun t152 => (if t151.size + t152.size ≤ 9223372036854775807 then (some (t151 ++ t152, 0)) else (none))) else (if t151.size + a0_2.size ≤ 9223372036854775807 then (some (t151 ++ a0_2, 0)) else (none)))) = some (r1, r2) := by rw [if_pos rfl] at H; exact H
    clear H
    have H := H1
    clear H1
    replace H := Option.bind_eq_some_iff.mp H
    obtain ⟨t151, A40, H⟩ := H
    replace H : (if a0_0 = 3 then ((inode_number.f k (IntKind.u64.wrap (a0_3)) 4).bind fun t152 => (if t151.size + t152.size ≤ 9223372036854775807 then (some (t151 ++ t152, 0)) else (none))) else (if t151.size + a0_2.size ≤ 9223372036854775807 then (some (t151 ++ a0_2, 0)) else (none))) = some (r1, r2) := H
    have A4 := Aside0.mk A40
    clear A40
    by_cases c5 : a0_0 = 3
    · rw [if_pos c5] at H
      have c5b0 : (a0_0 == 3) = true := beq_iff_eq.mpr c5
      have c5b1 : (a0_0 != 3) = false := bne_eq_false_iff_eq.mpr c5
      clear c5
      replace H := Option.bind_eq_some_iff.mp H
      obtain ⟨t152, A60, H⟩ := H
      replace H : (if t151.size + t152.size ≤ 9223372036854775807 then (some (t151 ++ t152, 0)) else (none)) = some (r1, r2) := H
      have A6 := Aside0.mk A60
      clear A60
      by_cases c7 : t151.size + t152.size ≤ 9223372036854775807
      · rw [if_pos c7] at H
        have c7b0 := eq_true c7
        have c7b1 : decide (t151.size + t152.size ≤ 9223372036854775807) = true := decide_eq_true c7
        try have c7b2 : (9223372036854775807 < t151.size + t152.size) = False := eq_false (Nat.not_lt.2 c7)
        simp only [Option.some.injEq, Prod.mk.injEq] at H
        obtain ⟨rfl, rfl⟩ := H
        go_enter Tryz.func43, Tryz.ntmps43
        go_wp2_with (first | ((with_reducible refine gate_dst (N := 1) rfl ?_); refine bx_ (N := 1) (cs := #[.int .u8 a0_0, .int .u32 a0_1, .string a0_2, .int .u32 a0_3]) (t := 71) ?_; intro gb149 hg w8 hbox hb; have BK149 := Aside0.mk (hbox); have GW149 := ge_ hg; have GE149 := ge_ hg; replace HB := hb_ hb; clear hb hbox hg; obtain ⟨hcz9_0, hcz9_1, hcz9_2, hcz9_3⟩ := cl4_ BK149; obtain ⟨hfz9_0, hfz9_1, hfz9_2, hfz9_3⟩ := fz4_ BK149) | ((with_reducible refine gate_callee (f := 58) rfl ?_); refine gl_ (some 6) Tryz.func58 #[.agg #[.int .u8 a0_0, .int .u32 a0_1, .string a0_2, .int .u32 a0_3]] ?_; (with_reducible refine (inode_right.calls k a0_0 a0_1 a0_2 a0_3 true _ A2.out).mono ?_); rintro e w10 ⟨rfl, hb⟩; refine ⟨_, rfl, ?_⟩; replace BK149 := kb_ BK149 hb; replace HB := hb_ hb; (try clear hb); (try clear hb2); (try clear hk); (try clear hi); obtain ⟨hcz11_0, hcz11_1, hcz11_2, hcz11_3⟩ := cl4_ BK149; obtain ⟨hfz11_0, hfz11_1, hfz11_2, hfz11_3⟩ := fz4_ BK149) | ((with_reducible refine gate_callee (f := 28) rfl ?_); refine gl_ (some 12) Tryz.func28 #[.int .u8 a0_0, .int .u32 a0_1] ?_; (with_reducible refine (inode_Prefix.calls k a0_0 a0_1 t151 _ A4.out).mono ?_); rintro e w12 ⟨rfl, hb⟩; refine ⟨_, rfl, ?_⟩; replace BK149 := kb_ BK149 hb; replace HB := hb_ hb; (try clear hb); (try clear hb2); (try clear hk); (try clear hi); obtain ⟨hcz13_0, hcz13_1, hcz13_2, hcz13_3⟩ := cl4_ BK149; obtain ⟨hfz13_0, hfz13_1, hfz13_2, hfz13_3⟩ := fz4_ BK149) | ((with_reducible refine gate_callee (f := 45) rfl ?_); refine goesL_ (some 20) rfl rfl Tryz.func45 (by kernel_rfl) rfl #[.int .u64 (IntKind.u64.wrap (a0_3)), .int .i64 4] rfl (by (try simp only [List.map_toArray, List.map_cons, List.map_nil]); first | done | rfl | (rw [show IntKind.u64.wrap (a0_3) = (a0_3) from IntWalk.u64_in _ (by simp only [decide_eq_false_iff_not, decide_eq_true_eq] at *; omega)]; rfl) | (simp only [List.length_drop, List.length_take]; rfl)) ?_; (with_reducible refine (inode_number.calls k (IntKind.u64.wrap (a0_3)) 4 t152 _ A6.out).mono ?_); rintro e w14 ⟨rfl, hb⟩; refine ⟨_, rfl, ?_⟩; replace BK149 := kb_ BK149 hb; replace HB := hb_ hb; (try clear hb); (try clear hb2); (try clear hk); (try clear hi)))
        go_ret2
        exact ⟨by first | rfl | (simp [errW_none, errW_some] <;> rfl) | (simp [*, errW_none, errW_some] <;> rfl), bel_⟩
      rw [if_neg c7] at H
      exact absurd H (by simp)
    rw [if_neg c5] at H
    have c5b0 : (a0_0 == 3) = false := beq_eq_false_iff_ne.mpr c5
    have c5b1 : (a0_0 != 3) = true := bne_iff_ne.mpr c5
    by_cases c15 : t151.size + a0_2.size ≤ 9223372036854775807
    · rw [if_pos c15] at H
      have c15b0 := eq_true c15
      have c15b1 : decide (t151.size + a0_2.size ≤ 9223372036854775807) = true := decide_eq_true c15
      try have c15b2 : (9223372036854775807 < t151.size + a0_2.size) = False := eq_false (Nat.not_lt.2 c15)
      simp only [Option.some.injEq, Prod.mk.injEq] at H
      obtain ⟨rfl, rfl⟩ := H
      go_enter Tryz.func43, Tryz.ntmps43
      go_wp2_with (first | ((with_reducible refine gate_dst (N := 1) rfl ?_); refine bx_ (N := 1) (cs := #[.int .u8 a0_0, .int .u32 a0_1, .string a0_2, .int .u32 a0_3]) (t := 71) ?_; intro gb149 hg w16 hbox hb; have BK149 := Aside0.mk (hbox); have GW149 := ge_ hg; have GE149 := ge_ hg; replace HB := hb_ hb; clear hb hbox hg; obtain ⟨hcz17_0, hcz17_1, hcz17_2, hcz17_3⟩ := cl4_ BK149; obtain ⟨hfz17_0, hfz17_1, hfz17_2, hfz17_3⟩ := fz4_ BK149) | ((with_reducible refine gate_callee (f := 58) rfl ?_); refine gl_ (some 6) Tryz.func58 #[.agg #[.int .u8 a0_0, .int .u32 a0_1, .string a0_2, .int .u32 a0_3]] ?_; (with_reducible refine (inode_right.calls k a0_0 a0_1 a0_2 a0_3 true _ A2.out).mono ?_); rintro e w18 ⟨rfl, hb⟩; refine ⟨_, rfl, ?_⟩; replace BK149 := kb_ BK149 hb; replace HB := hb_ hb; (try clear hb); (try clear hb2); (try clear hk); (try clear hi); obtain ⟨hcz19_0, hcz19_1, hcz19_2, hcz19_3⟩ := cl4_ BK149; obtain ⟨hfz19_0, hfz19_1, hfz19_2, hfz19_3⟩ := fz4_ BK149) | ((with_reducible refine gate_callee (f := 28) rfl ?_); refine gl_ (some 12) Tryz.func28 #[.int .u8 a0_0, .int .u32 a0_1] ?_; (with_reducible refine (inode_Prefix.calls k a0_0 a0_1 t151 _ A4.out).mono ?_); rintro e w20 ⟨rfl, hb⟩; refine ⟨_, rfl, ?_⟩; replace BK149 := kb_ BK149 hb; replace HB := hb_ hb; (try clear hb); (try clear hb2); (try clear hk); (try clear hi); obtain ⟨hcz21_0, hcz21_1, hcz21_2, hcz21_3⟩ := cl4_ BK149; obtain ⟨hfz21_0, hfz21_1, hfz21_2, hfz21_3⟩ := fz4_ BK149))
      go_ret2
      exact ⟨by first | rfl | (simp [errW_none, errW_some] <;> rfl) | (simp [*, errW_none, errW_some] <;> rfl), bel_⟩
    rw [if_neg c15] at H
    exact absurd H (by simp)
  replace c3 := Bool.eq_false_iff.mpr c3
  subst c3
  have H1 : (some ((⟨#[]⟩ : ByteArray), 4)) = some (r1, r2) := by rw [if_neg (show ¬ (false = true) by decide)] at H; exact H
  clear H
  have H := H1
  clear H1
  simp only [Option.some.injEq, Prod.mk.injEq] at H
  obtain ⟨rfl, rfl⟩ := H
  go_enter Tryz.func43, Tryz.ntmps43
  go_wp2_with (first | ((with_reducible refine gate_dst (N := 1) rfl ?_); refine bx_ (N := 1) (cs := #[.int .u8 a0_0, .int .u32 a0_1, .string a0_2, .int .u32 a0_3]) (t := 71) ?_; intro gb149 hg w22 hbox hb; have BK149 := Aside0.mk (hbox); have GW149 := ge_ hg; have GE149 := ge_ hg; replace HB := hb_ hb; clear hb hbox hg; obtain ⟨hcz23_0, hcz23_1, hcz23_2, hcz23_3⟩ := cl4_ BK149; obtain ⟨hfz23_0, hfz23_1, hfz23_2, hfz23_3⟩ := fz4_ BK149) | ((with_reducible refine gate_callee (f := 58) rfl ?_); refine gl_ (some 6) Tryz.func58 #[.agg #[.int .u8 a0_0, .int .u32 a0_1, .string a0_2, .int .u32 a0_3]] ?_; (with_reducible refine (inode_right.calls k a0_0 a0_1 a0_2 a0_3 false _ A2.out).mono ?_); rintro e w24 ⟨rfl, hb⟩; refine ⟨_, rfl, ?_⟩; replace BK149 := kb_ BK149 hb; replace HB := hb_ hb; (try clear hb); (try clear hb2); (try clear hk); (try clear hi)))
  go_ret2
  exact ⟨by first | rfl | (simp [errW_none, errW_some] <;> rfl) | (simp [*, errW_none, errW_some] <;> rfl), bel_⟩

end Go.Proofs.YtnngbhdofgodiaaGreatDoor.Z
end

section
-- Printed by a program of this session (mp.py) out of the translation.
namespace Go.Proofs.YtnngbhdofgodiaaGreatDoor.Z
open Go.RowKit Go.Proofs.YtnngbhdofgodiaaGreatDoorW.PrintWords Go.Proofs.YtnngbhdofgodiaaGreatDoorW.PrintLast Go.Proofs.YtnngbhdofgodiaaGreatDoorW.PrintMore
attribute [local go_sem] max2_int min2_int max_two min_two max_three min_three max_four min_four   -- for this text's walks alone
set_option linter.unusedVariables false
set_option linter.unusedSimpArgs false

/-! ### pack_TakeNumber: function 57 -/
mutual
def pack_TakeNumber.j0 : Nat → ByteArray → Int → Bool → Option (Int × ByteArray × Int)
  | 0, _, _, _ => none
  | k + 1, x0, x1, x9 => if x9 = true then (some (0, (⟨#[]⟩ : ByteArray), 1)) else (if (x0.size : Int) < x1 then (some (0, (⟨#[]⟩ : ByteArray), 3)) else (pack_TakeNumber.l0 k x0 x1 0 x1 0))
def pack_TakeNumber.l0 : Nat → ByteArray → Int → Int → Int → Int → Option (Int × ByteArray × Int)
  | 0, _, _, _, _, _ => none
  | k + 1, x0, x1, x7, x21, x22 => if x22 < x21 then (if 0 ≤ x22 then (if x22 < (x0.size : Int) then (pack_TakeNumber.l0 k x0 x1 (Go.bits .or .u64 (IntKind.u64.wrap (x7 * 256)) (IntKind.u64.wrap (bt x0 x22))) x21 (wrap64 (x22 + 1))) else (none)) else (none)) else (if 0 ≤ x1 then (if x1 ≤ (x0.size : Int) then (some (x7, x0.extract (x1 : Int).toNat x0.size, 0)) else (none)) else (none))
end
def pack_TakeNumber.f (k : Nat) (a0 : ByteArray) (a1 : Int) : Option (Int × ByteArray × Int) := if a1 < 1 then (pack_TakeNumber.j0 k a0 a1 true) else (pack_TakeNumber.j0 k a0 a1 (decide (a1 > 8)))
theorem pack_TakeNumber.mono_l : ∀ k, (∀ y0 y1 y2, LeO (pack_TakeNumber.j0 k y0 y1 y2) (pack_TakeNumber.j0 (k + 1) y0 y1 y2)) ∧ (∀ y0 y1 y2 y3 y4, LeO (pack_TakeNumber.l0 k y0 y1 y2 y3 y4) (pack_TakeNumber.l0 (k + 1) y0 y1 y2 y3 y4))
  | 0 => ⟨fun _ _ _ r h => by simp [pack_TakeNumber.j0] at h, fun _ _ _ _ _ r h => by simp [pack_TakeNumber.l0] at h⟩
  | k + 1 => by
    obtain ⟨ih0, ih1⟩ := pack_TakeNumber.mono_l k
    refine ⟨?_, ?_⟩
    · intro y0 y1 y2
      unfold pack_TakeNumber.j0
      repeat' first
      | (with_reducible exact ih0 _ _ _)
      | (with_reducible exact ih1 _ _ _ _ _)
      | (with_reducible exact LeO.refl _)
      | (with_reducible exact LeO.none _)
      | (with_reducible refine LeO.ite ?_ ?_)
      | (with_reducible refine LeO.bind ?_ (fun _ => ?_))
      | exact ih0 _ _ _
      | exact ih1 _ _ _ _ _
      | exact LeO.none _
      | refine LeO.ite ?_ ?_
      | refine LeO.bind ?_ (fun _ => ?_)
    intro y0 y1 y2 y3 y4
    unfold pack_TakeNumber.l0
    repeat' first
    | (with_reducible exact ih0 _ _ _)
    | (with_reducible exact ih1 _ _ _ _ _)
    | (with_reducible exact LeO.refl _)
    | (with_reducible exact LeO.none _)
    | (with_reducible refine LeO.ite ?_ ?_)
    | (with_reducible refine LeO.bind ?_ (fun _ => ?_))
    | exact ih0 _ _ _
    | exact ih1 _ _ _ _ _
    | exact LeO.none _
    | refine LeO.ite ?_ ?_
    | refine LeO.bind ?_ (fun _ => ?_)
theorem pack_TakeNumber.mono : ∀ a0 a1 k, LeO (pack_TakeNumber.f k a0 a1) (pack_TakeNumber.f (k + 1) a0 a1) := by
  intro a0 a1 k
  obtain ⟨ih0, ih1⟩ := pack_TakeNumber.mono_l k
  unfold pack_TakeNumber.f
  repeat' first
      | (with_reducible exact ih0 _ _ _)
      | (with_reducible exact ih1 _ _ _ _ _)
      | (with_reducible exact LeO.refl _)
      | (with_reducible exact LeO.none _)
      | (with_reducible refine LeO.ite ?_ ?_)
      | (with_reducible refine LeO.bind ?_ (fun _ => ?_))
      | exact ih0 _ _ _
      | exact ih1 _ _ _ _ _
      | exact LeO.none _
      | refine LeO.ite ?_ ?_
      | refine LeO.bind ?_ (fun _ => ?_)
set_option maxHeartbeats 8000000 in
set_option maxRecDepth 100000 in
theorem pack_TakeNumber.calls (k : Nat) (a0 : ByteArray) (a1 : Int) (r1 : Int) (r2 : ByteArray) (r3 : Int) (w : World) (h : pack_TakeNumber.f k a0 a1 = some (r1, r2, r3)) :
    Calls Tryz.prog 57 #[.string a0, .int .i64 a1] w fun e w' => e = .returned (.tuple #[.int .u64 r1, .string r2, .int .i64 r3]) ∧ Drawn0 w w' := by
  have H : (if a1 < 1 then (pack_TakeNumber.j0 k a0 a1 true) else (pack_TakeNumber.j0 k a0 a1 (decide (a1 > 8)))) = some (r1, r2, r3) := h
  clear h
  have HC3 := Aside0.mk H
  clear H
  go_enter Tryz.func57, Tryz.ntmps57
  go_upto_region 1 with (fail)
  repeat (go_quiet (fail); go_upto_region 1 with (fail))
  go_cut [9] (fun v9 wc => ∃ (kq : Nat) (x9_2 : Bool), v9 = .bool x9_2 ∧ Aside0 (pack_TakeNumber.j0 kq a0 a1 x9_2 = some (r1, r2, r3)) ∧ Aside0 (kq ≤ k) ∧ Drawn0 w wc)
  case first =>
    have H := HC3.out
    clear HC3
    by_cases c4 : a1 < 1
    · rw [if_pos c4] at H
      have c4b0 : decide (a1 < 1) = true := decide_eq_true c4
      clear c4
      (first | rw [c4b0] | (simp only [i64_w, i32_w]; rw [c4b0]) | skip)
      have H' := Aside0.mk H
      clear H
      go_wp2
      repeat (go_quiet (fail); try go_wp2)
      go_meet
      case rel => exact ⟨_, (true), (by first | rfl | (simp; done) | (simp [*]; done)), H', ⟨by first | omega | exact Nat.le_refl _⟩, by repeat (first | exact Drawn0.refl _ | apply Drawn0.step)⟩
    rw [if_neg c4] at H
    have c4b0 : decide (a1 < 1) = false := decide_eq_false c4
    clear c4
    (first | rw [c4b0] | (simp only [i64_w, i32_w]; rw [c4b0]) | skip)
    have H' := Aside0.mk H
    clear H
    go_wp2
    repeat (go_quiet (fail); try go_wp2)
    go_meet
    case rel => exact ⟨_, (decide (a1 > 8)), (by first | rfl | (simp; done) | (simp [*]; done)), H', ⟨by first | omega | exact Nat.le_refl _⟩, by repeat (first | exact Drawn0.refl _ | apply Drawn0.step)⟩
  case rest =>
    clear HC3
    try clear p2
    try clear c4
    try clear c4b0
    obtain ⟨kq, x9_2, rfl, HA, HJ2, ⟨mc2, rfl⟩⟩ := hcut
    cases kq with
    | zero => exact absurd HA.out (by simp [pack_TakeNumber.j0])
    | succ kj2 =>
      have H := HA.out
      clear HA
      simp only [pack_TakeNumber.j0] at H
      by_cases c5 : x9_2 = true
      · subst c5
        have H1 : (some (0, (⟨#[]⟩ : ByteArray), 1)) = some (r1, r2, r3) := by rw [if_pos rfl] at H; exact H
        clear H
        have H := H1
        clear H1
        simp only [Option.some.injEq, Prod.mk.injEq] at H
        obtain ⟨rfl, rfl, rfl⟩ := H
        go_wp2
        repeat (go_quiet (fail); try go_wp2)
        go_ret3
        exact ⟨by first | rfl | (simp; done) | (simp [*]; done), by repeat (first | exact Drawn0.refl _ | apply Drawn0.step)⟩
      replace c5 := Bool.eq_false_iff.mpr c5
      subst c5
      have H1 : (if (a0.size : Int) < a1 then (some (0, (⟨#[]⟩ : ByteArray), 3)) else (pack_TakeNumber.l0 kj2 a0 a1 0 a1 0)) = some (r1, r2, r3) := by rw [if_neg (show ¬ (false = true) by decide)] at H; exact H
      clear H
      have H := H1
      clear H1
      by_cases c6 : (a0.size : Int) < a1
      · rw [if_pos c6] at H
        have c6b0 : decide ((a0.size : Int) < a1) = true := decide_eq_true c6
        clear c6
        simp only [Option.some.injEq, Prod.mk.injEq] at H
        obtain ⟨rfl, rfl, rfl⟩ := H
        go_wp2
        repeat (go_quiet (fail); try go_wp2)
        go_ret3
        exact ⟨by first | rfl | (simp; done) | (simp [*]; done), by repeat (first | exact Drawn0.refl _ | apply Drawn0.step)⟩
      rw [if_neg c6] at H
      have c6b0 : decide ((a0.size : Int) < a1) = false := decide_eq_false c6
      clear c6
      have H' := Aside0.mk H
      clear H
      go_wp2
      repeat (go_quiet (fail); try go_wp2)
      go_loopg [7, 22] kj2 (fun kq v7 v22 w' => ∃ (x7_2 : Int) (x22_2 : Int), v7 = .int .u64 x7_2 ∧ v22 = .int .i64 x22_2 ∧ Aside0 (pack_TakeNumber.l0 kq a0 a1 x7_2 a1 x22_2 = some (r1, r2, r3)) ∧ Aside0 (kq ≤ kj2) ∧ Drawn0 w w')
      case atStart => exact ⟨(0), (0), (by first | rfl | (simp; done) | (simp [*]; done)), (by first | rfl | (simp; done) | (simp [*]; done)), H', ⟨Nat.le_refl _⟩, by repeat (first | exact Drawn0.refl _ | apply Drawn0.step)⟩
      case round =>
        clear H'
        try clear c2
        try clear p2
        try clear c4
        try clear c4b0
        try clear c5
        try clear c6
        try clear c6b0
        try clear p2
        obtain ⟨x7_2, x22_2, rfl, rfl, HA, HK2, ⟨m2, rfl⟩⟩ := hrel
        cases gk with
        | zero => exact absurd HA.out (by simp [pack_TakeNumber.l0])
        | succ k2 =>
          have H := HA.out
          clear HA
          simp only [pack_TakeNumber.l0] at H
          by_cases c7 : x22_2 < a1
          · rw [if_pos c7] at H
            have c7b0 : decide (x22_2 < a1) = true := decide_eq_true c7
            clear c7
            by_cases c8 : 0 ≤ x22_2
            · rw [if_pos c8] at H
              have c8b0 : decide (0 ≤ x22_2) = true := decide_eq_true c8
              clear c8
              by_cases c9 : x22_2 < (a0.size : Int)
              · rw [if_pos c9] at H
                have c9b0 : decide (x22_2 < (a0.size : Int)) = true := decide_eq_true c9
                clear c9
                have H' := Aside0.mk H
                clear H
                have p10 : 0 ≤ (x22_2 : Int) := of_decide_eq_true (by first | (with_reducible assumption) | assumption)
                have q10 : x22_2 < (a0.size : Int) := of_decide_eq_true (by first | (with_reducible assumption) | assumption)
                have hx10 := bt_at a0 x22_2
                replace p10 := eq_true p10
                replace q10 := eq_true q10
                go_wp2
                repeat (go_quiet (fail); try go_wp2)
                go_roundg k2
                case measure => have := HJ2.out; have := HK2.out; omega
                case rel => exact ⟨(Go.bits .or .u64 (IntKind.u64.wrap (x7_2 * 256)) (IntKind.u64.wrap (bt a0 x22_2))), (wrap64 (x22_2 + 1)), (by first | rfl | (simp; done) | (simp [*]; done)), (by first | rfl | (simp; done) | (simp [*]; done)), H', ⟨by have := HJ2.out; have := HK2.out; omega⟩, by repeat (first | exact Drawn0.refl _ | apply Drawn0.step)⟩
              rw [if_neg c9] at H
              exact absurd H (by simp)
            rw [if_neg c8] at H
            exact absurd H (by simp)
          rw [if_neg c7] at H
          have c7b0 : decide (x22_2 < a1) = false := decide_eq_false c7
          clear c7
          by_cases c11 : 0 ≤ a1
          · rw [if_pos c11] at H
            have c11b0 := eq_true c11
            have c11b1 : decide (0 ≤ a1) = true := decide_eq_true c11
            clear c11
            by_cases c12 : a1 ≤ (a0.size : Int)
            · rw [if_pos c12] at H
              have c12b0 := eq_true c12
              have c12b1 : decide (a1 ≤ (a0.size : Int)) = true := decide_eq_true c12
              clear c12
              simp only [Option.some.injEq, Prod.mk.injEq] at H
              obtain ⟨rfl, rfl, rfl⟩ := H
              go_wp2
              repeat (go_quiet (fail); try go_wp2)
              go_ret3
              exact ⟨by first | rfl | (simp; done) | (simp [*]; done), by repeat (first | exact Drawn0.refl _ | apply Drawn0.step)⟩
            rw [if_neg c12] at H
            exact absurd H (by simp)
          rw [if_neg c11] at H
          exact absurd H (by simp)

end Go.Proofs.YtnngbhdofgodiaaGreatDoor.Z
end

section
-- Printed by a program of this session (mp.py) out of the translation.
namespace Go.Proofs.YtnngbhdofgodiaaGreatDoor.Z
open Go.RowKit Go.Proofs.YtnngbhdofgodiaaGreatDoorW.PrintWords Go.Proofs.YtnngbhdofgodiaaGreatDoorW.PrintLast Go.Proofs.YtnngbhdofgodiaaGreatDoorW.PrintMore
attribute [local go_sem] max2_int min2_int max_two min_two max_three min_three max_four min_four   -- for this text's walks alone
set_option linter.unusedVariables false
set_option linter.unusedSimpArgs false

/-- A state of type 106 at block g of W; what its slices lead to came in by w0. -/
def IsS106 (w0 W : World) (g : Nat) (f0 : ByteArray) (f1 : Bool) : Prop := W.heap[g]? = some (.cells #[.string f0, .bool f1] 106 (0, 0)) ∧ w0.heap.size ≤ g
theorem IsS106.grown {w0 W : World} {g : Nat} {f0 : ByteArray} {f1 : Bool} {W1 : World} {row : Option Nat} (h : IsS106 w0 W g f0 f1) (hw : W.grownBy W1 row) (hne : some g ≠ row) : IsS106 w0 W1 g f0 f1 := by
  obtain ⟨hb, hg⟩ := h
  exact ⟨blk_grown hb hw hne, hg⟩
theorem IsS106.own_neN {w0 W : World} {g : Nat} {f0 : ByteArray} {f1 : Bool} {α : Type} {d : Kd α} {e : Nat} {base : Nat} {ok : Nat → Prop} {v : Value} {xs : List α} (h : IsS106 w0 W g f0 f1) (ho : Kd.N d e W base ok v xs) (ht : e ≠ 106) : some g ≠ v.ownBlock := by
  obtain ⟨hb, hg⟩ := h
  exact Kd.N_ne ho hb ht
theorem IsS106.fresh {w0 W : World} {g : Nat} {f0 : ByteArray} {f1 : Bool} (h : IsS106 w0 W g f0 f1) : ∀ k, W.heap.size ≤ k → k ≠ g := by
  obtain ⟨hb, hg⟩ := h
  exact Kd.freshB hb
theorem IsS106.kept {w0 W : World} {g : Nat} {f0 : ByteArray} {f1 : Bool} {W1 : World} {S : Nat → Prop} (h : IsS106 w0 W g f0 f1) (hk : Kept W W1 S) (hne : ¬ S g) : IsS106 w0 W1 g f0 f1 := by
  obtain ⟨hb, hg⟩ := h
  exact ⟨blk_kept hb hk hne, hg⟩
theorem IsS106.below {w0 W : World} {g : Nat} {f0 : ByteArray} {f1 : Bool} {W1 : World} (h : IsS106 w0 W g f0 f1) (hw : Below W.heap.size W W1) : IsS106 w0 W1 g f0 f1 := h.grown (grown_of_below hw none) (by simp)
theorem IsS106.alloc {w0 W : World} {g : Nat} {f0 : ByteArray} {f1 : Bool} (h : IsS106 w0 W g f0 f1) (o : Obj) : IsS106 w0 (W.alloc o) g f0 f1 := h.below (below_alloc (Below.refl _ _) o)
theorem IsS106.drewN {w0 W : World} {g : Nat} {f0 : ByteArray} {f1 : Bool} (h : IsS106 w0 W g f0 f1) (m : Nat) : IsS106 w0 (W.drewN m) g f0 f1 := h
theorem IsS106.drew {w0 W : World} {g : Nat} {f0 : ByteArray} {f1 : Bool} (h : IsS106 w0 W g f0 f1) : IsS106 w0 W.drew g f0 f1 := h
theorem IsS106.at_ {w0 W : World} {g : Nat} {f0 : ByteArray} {f1 : Bool} {w' : World} {m : Nat} (hq : W.drewN m = w') (h : IsS106 w0 W g f0 f1) : IsS106 w0 w' g f0 f1 := by subst hq; exact IsS106.drewN h m
theorem IsS106.apart {w0 W : World} {g : Nat} {f0 : ByteArray} {f1 : Bool} {α : Type} {d : Kd α} {e : Nat} {base : Nat} {ok : Nat → Prop} {v : Value} {xs : List α} (h : IsS106 w0 W g f0 f1) (ho : d.R e W base ok v xs) (ht : ∀ q, q ∈ e :: d.E → q ≠ 106) : d.R e W base (fun k => ok k ∧ k ≠ g) v xs := by
  obtain ⟨hb, hg⟩ := h
  exact Kd.R_types ho hb ht
theorem IsS106.own_ne {w0 W : World} {g : Nat} {f0 : ByteArray} {f1 : Bool} {α : Type} {d : Kd α} {e : Nat} {base : Nat} {ok : Nat → Prop} {v : Value} {xs : List α} (h : IsS106 w0 W g f0 f1) (ho : d.R e W base ok v xs) (ht : e ≠ 106) : some g ≠ v.ownBlock := by
  obtain ⟨hb, hg⟩ := h
  exact Kd.R_ne ho hb ht
theorem IsS106.apartQ {w0 W : World} {g : Nat} {f0 : ByteArray} {f1 : Bool} {α : Type} {d : Kd α} {e : Nat} {base : Nat} {ok : Nat → Prop} {v : Value} {xs : List α} (h : IsS106 w0 W g f0 f1) (ho : d.Q e W base ok v xs) (ht : ∀ q, q ∈ e :: d.E → q ≠ 106) : d.Q e W base (fun k => ok k ∧ k ≠ g) v xs := by
  obtain ⟨hb, hg⟩ := h
  exact Kd.Q_types ho hb ht
theorem IsS106.own_neQ {w0 W : World} {g : Nat} {f0 : ByteArray} {f1 : Bool} {α : Type} {d : Kd α} {e : Nat} {base : Nat} {ok : Nat → Prop} {v : Value} {xs : List α} (h : IsS106 w0 W g f0 f1) (ho : d.Q e W base ok v xs) (ht : e ≠ 106) : some g ≠ v.ownBlock := by
  obtain ⟨hb, hg⟩ := h
  exact Kd.Q_ne ho hb ht
theorem IsS106.apartS {w0 W : World} {g : Nat} {f0 : ByteArray} {f1 : Bool} {α : Type} {d : Kd α} {e : Nat} {base : Nat} {ok : Nat → Prop} {v : Value} {xs : List α} (h : IsS106 w0 W g f0 f1) (ho : d.S e W base ok v xs) (ht : ∀ q, q ∈ e :: d.E → q ≠ 106) : d.S e W base (fun k => ok k ∧ k ≠ g) v xs := by
  obtain ⟨hb, hg⟩ := h
  exact Kd.S_types ho hb ht
theorem IsS106.own_neS {w0 W : World} {g : Nat} {f0 : ByteArray} {f1 : Bool} {α : Type} {d : Kd α} {e : Nat} {base : Nat} {ok : Nat → Prop} {v : Value} {xs : List α} (h : IsS106 w0 W g f0 f1) (ho : d.S e W base ok v xs) (ht : e ≠ 106) : some g ≠ v.ownBlock := by
  obtain ⟨hb, hg⟩ := h
  exact Kd.S_ne ho hb ht
theorem IsS106.lt {w0 W : World} {g : Nat} {f0 : ByteArray} {f1 : Bool} (h : IsS106 w0 W g f0 f1) : g < W.heap.size := by
  obtain ⟨hb, hg⟩ := h
  exact blk_lt hb
theorem IsS106.ge {w0 W : World} {g : Nat} {f0 : ByteArray} {f1 : Bool} (h : IsS106 w0 W g f0 f1) : w0.heap.size ≤ g := by
  obtain ⟨hb, hg⟩ := h
  exact hg
theorem IsS106.ne_blk {w0 W : World} {g : Nat} {f0 : ByteArray} {f1 : Bool} {a : Nat} {cs : Array Value} {t : TypeId} {fr : Nat × Nat} (h : IsS106 w0 W g f0 f1) (hb2 : W.heap[a]? = some (.cells cs t fr)) (ht : t ≠ 106) : g ≠ a := by
  obtain ⟨hb, hg⟩ := h
  rintro rfl
  rw [hb] at hb2
  injection hb2 with hb2
  injection hb2 with _ ht2
  exact ht ht2.symm
theorem IsS106.far {w0 W : World} {g : Nat} {f0 : ByteArray} {f1 : Bool} {p : Addr} (h : IsS106 w0 W g f0 f1) (hne : g ≠ p.block) (u : Value) : IsS106 w0 (W.setCell p u) g f0 f1 := by
  obtain ⟨hb, hg⟩ := h
  exact ⟨blk_far hb hne u, hg⟩
theorem cellS106_0 {W : World} {g : Nat} {f0 : ByteArray} {f1 : Bool} (h : W.heap[g]? = some (.cells #[.string f0, .bool f1] 106 (0, 0))) : W.cell? ⟨g, 0, none⟩ = some (.string f0) := (blk_cell h 0).trans rfl
theorem IsS106.set_0 {w0 W : World} {g : Nat} {f0 : ByteArray} {f1 : Bool} (h : IsS106 w0 W g f0 f1) (x : ByteArray) : IsS106 w0 (W.setCell ⟨g, 0, none⟩ (.string x)) g x f1 := by
  obtain ⟨hb, hg⟩ := h
  exact ⟨by simpa using blk_set hb 0 (.string x), hg⟩
theorem cellS106_1 {W : World} {g : Nat} {f0 : ByteArray} {f1 : Bool} (h : W.heap[g]? = some (.cells #[.string f0, .bool f1] 106 (0, 0))) : W.cell? ⟨g, 1, none⟩ = some (.bool f1) := (blk_cell h 1).trans rfl
theorem IsS106.set_1 {w0 W : World} {g : Nat} {f0 : ByteArray} {f1 : Bool} (h : IsS106 w0 W g f0 f1) (x : Bool) : IsS106 w0 (W.setCell ⟨g, 1, none⟩ (.bool x)) g f0 x := by
  obtain ⟨hb, hg⟩ := h
  exact ⟨by simpa using blk_set hb 1 (.bool x), hg⟩
theorem IsS106.new (w0 W : World) (f0 : ByteArray) (f1 : Bool) (hB : Below w0.heap.size w0 W) : IsS106 w0 (W.alloc (.cells #[.string f0, .bool f1] 106)) W.heap.size f0 f1 := ⟨by simpa using heap_alloc_new W _, hB.size⟩

/-! ### inode_taker_number: function 42 -/
def inode_taker_number.f (k : Nat) (s0_0 : ByteArray) (s0_1 : Bool) (a1 : Int) : Option (Int × ByteArray × Bool) := (pack_TakeNumber.f k s0_0 a1).bind fun bt142 => (if s0_1 = true then (some (bt142.1, bt142.2.1, true)) else (some (bt142.1, bt142.2.1, (bt142.2.2 != 0))))
theorem inode_taker_number.mono : ∀ a0 a1 a2 k, LeO (inode_taker_number.f k a0 a1 a2) (inode_taker_number.f (k + 1) a0 a1 a2) := by
  intro a0 a1 a2 k
  unfold inode_taker_number.f
  repeat' first
      | (with_reducible exact pack_TakeNumber.mono _ _ _)
      | (with_reducible exact LeO.refl _)
      | (with_reducible exact LeO.none _)
      | (with_reducible refine LeO.ite ?_ ?_)
      | (with_reducible refine LeO.bind ?_ (fun _ => ?_))
      | exact pack_TakeNumber.mono _ _ _
      | exact LeO.none _
      | refine LeO.ite ?_ ?_
      | refine LeO.bind ?_ (fun _ => ?_)
set_option maxHeartbeats 8000000 in
set_option maxRecDepth 100000 in
theorem inode_taker_number.calls (k : Nat) (g : Nat) (s0_0 : ByteArray) (s0_1 : Bool) (a1 : Int) (r1 : Int) (r2 : ByteArray) (r3 : Bool) (w0 w : World) (hI : IsS106 w0 w g s0_0 s0_1) (hB : Below w0.heap.size w0 w) (h : inode_taker_number.f k s0_0 s0_1 a1 = some (r1, r2, r3)) :
    Calls Tryz.prog 42 #[.pointer (some ⟨g, 0, none⟩), .int .i64 a1] w fun e w' => e = .returned (.int .u64 r1) ∧ IsS106 w0 w' g r2 r3 ∧ Below w0.heap.size w0 w' ∧ KeepBut w w' g none := by
  have HI0 := Aside0.mk hI
  have HK := Aside0.mk (KeepBut.refl w g none)
  have HL := Aside0.mk hB.size
  clear hI
  have HW0 := Aside0.mk hB.size
  have HB := Aside0.mk hB
  clear hB
  have H : ((pack_TakeNumber.f k s0_0 a1).bind fun bt142 => (if s0_1 = true then (some (bt142.1, bt142.2.1, true)) else (some (bt142.1, bt142.2.1, (bt142.2.2 != 0))))) = some (r1, r2, r3) := h
  clear h
  replace H := Option.bind_eq_some_iff.mp H
  obtain ⟨⟨t142, t143, t144⟩, A30, H⟩ := H
  replace H : (if s0_1 = true then (some (t142, t143, true)) else (some (t142, t143, (t144 != 0)))) = some (r1, r2, r3) := H
  have A3 := Aside0.mk A30
  clear A30
  by_cases c4 : s0_1 = true
  · subst c4
    have H1 : (some (t142, t143, true)) = some (r1, r2, r3) := by rw [if_pos rfl] at H; exact H
    clear H
    have H := H1
    clear H1
    simp only [Option.some.injEq, Prod.mk.injEq] at H
    obtain ⟨rfl, rfl, rfl⟩ := H
    obtain ⟨HGz5, hgz5⟩ := HI0.out
    have hcz5_0 := cellS106_0 HGz5
    have hcz5_1 := cellS106_1 HGz5
    have hfz5_0 := blk_frozen HGz5 0
    have hfz5_1 := blk_frozen HGz5 1
    clear HGz5 hgz5
    go_enter Tryz.func42, Tryz.ntmps42
    go_wp2_with (first | ((with_reducible refine gate_callee (f := 57) rfl ?_); refine gl_ (some 14) Tryz.func57 #[.string s0_0, .int .i64 a1] ?_; (with_reducible refine (pack_TakeNumber.calls k s0_0 a1 t142 t143 t144 _ A3.out).mono ?_); rintro e w' ⟨rfl, ⟨nd, rfl⟩⟩; refine ⟨_, rfl, ?_⟩))
    go_ret
    exact ⟨by first | rfl | (simp [errW_none, errW_some] <;> rfl) | (simp [*, errW_none, errW_some] <;> rfl), by repeat (first | (with_reducible first | exact HI0.out | apply IsS106.alloc | apply IsS106.drewN | apply IsS106.drew | apply IsS106.set_0 | apply IsS106.set_1) | exact HI0.out), by repeat (first | (with_reducible first | exact HB.out | apply below_alloc | apply pw_below_drewN | apply below_drew1 | refine below_set ?_ (IsS106.ge HI0.out)) | exact HB.out), by repeat (first | (with_reducible first | exact HK.out | apply KeepBut.set_ | apply keep_drewN | apply keep_drew | apply keep_alloc) | exact HK.out)⟩
  replace c4 := Bool.eq_false_iff.mpr c4
  subst c4
  have H1 : (some (t142, t143, (t144 != 0))) = some (r1, r2, r3) := by rw [if_neg (show ¬ (false = true) by decide)] at H; exact H
  clear H
  have H := H1
  clear H1
  simp only [Option.some.injEq, Prod.mk.injEq] at H
  obtain ⟨rfl, rfl, rfl⟩ := H
  obtain ⟨HGz6, hgz6⟩ := HI0.out
  have hcz6_0 := cellS106_0 HGz6
  have hcz6_1 := cellS106_1 HGz6
  have hfz6_0 := blk_frozen HGz6 0
  have hfz6_1 := blk_frozen HGz6 1
  clear HGz6 hgz6
  go_enter Tryz.func42, Tryz.ntmps42
  go_wp2_with (first | ((with_reducible refine gate_callee (f := 57) rfl ?_); refine gl_ (some 14) Tryz.func57 #[.string s0_0, .int .i64 a1] ?_; (with_reducible refine (pack_TakeNumber.calls k s0_0 a1 t142 t143 t144 _ A3.out).mono ?_); rintro e w' ⟨rfl, ⟨nd, rfl⟩⟩; refine ⟨_, rfl, ?_⟩))
  go_ret
  exact ⟨by first | rfl | (simp [errW_none, errW_some] <;> rfl) | (simp [*, errW_none, errW_some] <;> rfl), by repeat (first | (with_reducible first | exact HI0.out | apply IsS106.alloc | apply IsS106.drewN | apply IsS106.drew | apply IsS106.set_0 | apply IsS106.set_1) | exact HI0.out), by repeat (first | (with_reducible first | exact HB.out | apply below_alloc | apply pw_below_drewN | apply below_drew1 | refine below_set ?_ (IsS106.ge HI0.out)) | exact HB.out), by repeat (first | (with_reducible first | exact HK.out | apply KeepBut.set_ | apply keep_drewN | apply keep_drew | apply keep_alloc) | exact HK.out)⟩

end Go.Proofs.YtnngbhdofgodiaaGreatDoor.Z
end
