/- This session's own texts, laid together (a part that several claims share). -/
import Derived.Test.YtfkofbabeghgkaaGreatMB1
import Derived.Test.YtfkofbabeghgkaaGreatMB3
import Derived.Test.YtfkofbabeghgkaaGreatMB2
import Derived.Lib.IndexLaws
import Derived.Lib.Join
import Derived.Lib.SmallJoins
import Derived.Test.YtfkofbabeghgkaaGreatProg
import Derived.Laws.BitsLemmas
import Derived.Laws.Bits64
import Derived.Lib.BitFns
open Go.RowKit Go.Proofs.YtfkofbabeghgkaaGreatW.PrintWords Go.Proofs.YtfkofbabeghgkaaGreatW.PrintLast Go.Proofs.YtfkofbabeghgkaaGreatW.PrintMore
set_option linter.unusedVariables false
set_option linter.unusedSimpArgs false
section
namespace Go.Proofs.YtfkofbabeghgkaaGreat.Z
attribute [local go_sem] max2_int min2_int max_two min_two max_three min_three max_four min_four   -- for this text's walks alone
attribute [local go_sem high] eqA77
mutual
def item_Diff.l0 : Nat → List (S77) → List (S77) → List (S60) → Option ((List (S60)) × Int)
 | 0, _, _, _ => none
 | k + 1, x0, x1, x7 => if (wrap64 ((x0.length : Int) + (x1.length : Int))) > 0 then (if (x1.length : Int) = 0 then (item_Diff.j1 k x0 x1 x7 true) else (if (x0.length : Int) > 0 then (if 0 < (x0.length : Int) then (if 0 < (x1.length : Int) then (item_Diff.j1 k x0 x1 x7 (Op.bytesLess (((rd_T77 x0 0).f0).toList) (((rd_T77 x1 0).f0).toList))) else (none)) else (none)) else (item_Diff.j1 k x0 x1 x7 false))) else (some (x7, 0))
def item_Diff.j1 : Nat → List (S77) → List (S77) → List (S60) → Bool → Option ((List (S60)) × Int)
 | 0, _, _, _, _ => none
 | k + 1, x0, x1, x7, x23 => if x23 = true then (if 0 < (x0.length : Int) then (if x7.length < 3518437208883 then (if 1 ≤ (x0.length : Int) then (item_Diff.l0 k (x0.drop 1) x1 (x7 ++ [(⟨(rd_T77 x0 0).f0, false, (⟨#[]⟩ : ByteArray)⟩ : S60)])) else (none)) else (none)) else (none)) else (if (x0.length : Int) > 0 then (if 0 < (x0.length : Int) then (if 0 < (x1.length : Int) then (item_Diff.j2 k x0 x1 x7 ((((rd_T77 x0 0).f0).toList) == (((rd_T77 x1 0).f0).toList) && ((((rd_T77 x0 0).f1).toList) == (((rd_T77 x1 0).f1).toList)))) else (none)) else (none)) else (item_Diff.j2 k x0 x1 x7 false))
def item_Diff.j2 : Nat → List (S77) → List (S77) → List (S60) → Bool → Option ((List (S60)) × Int)
 | 0, _, _, _, _ => none
 | k + 1, x0, x1, x7, x53 => if x53 = true then (if 1 ≤ (x0.length : Int) then (if 1 ≤ (x1.length : Int) then (item_Diff.l0 k (x0.drop 1) (x1.drop 1) x7) else (none)) else (none)) else (if (x0.length : Int) > 0 then (if 0 < (x0.length : Int) then (if 0 < (x1.length : Int) then (if ((rd_T77 x0 0).f0).toList = ((rd_T77 x1 0).f0).toList then (if 1 ≤ (x0.length : Int) then (if x7.length < 3518437208883 then (if 1 ≤ (x1.length : Int) then (item_Diff.l0 k (x0.drop 1) (x1.drop 1) (x7 ++ [(⟨(rd_T77 x1 0).f0, true, (rd_T77 x1 0).f1⟩ : S60)])) else (none)) else (none)) else (none)) else (if x7.length < 3518437208883 then (if 1 ≤ (x1.length : Int) then (item_Diff.l0 k x0 (x1.drop 1) (x7 ++ [(⟨(rd_T77 x1 0).f0, true, (rd_T77 x1 0).f1⟩ : S60)])) else (none)) else (none))) else (none)) else (none)) else (if 0 < (x1.length : Int) then (if x7.length < 3518437208883 then (if 1 ≤ (x1.length : Int) then (item_Diff.l0 k x0 (x1.drop 1) (x7 ++ [(⟨(rd_T77 x1 0).f0, true, (rd_T77 x1 0).f1⟩ : S60)])) else (none)) else (none)) else (none)))
end
def item_Diff.f (k : Nat) (l0 : List (S77)) (l1 : List (S77)) : Option ((List (S60)) × Int) := (item_Check.f k l0).bind fun t177 => ((item_Check.f k l1).bind fun t178 => ((cmp_Or_api_Errno.f k (([t177, t178] : List Int))).bind fun t182 => (if t182 = 0 then (item_Diff.l0 k l0 l1 ([] : List (S60))) else (some (([] : List (S60)), t182)))))
theorem item_Diff.mono_l : ∀ k, (∀ y0 y1 y2, LeO (item_Diff.l0 k y0 y1 y2) (item_Diff.l0 (k + 1) y0 y1 y2)) ∧ (∀ y0 y1 y2 y3, LeO (item_Diff.j1 k y0 y1 y2 y3) (item_Diff.j1 (k + 1) y0 y1 y2 y3)) ∧ (∀ y0 y1 y2 y3, LeO (item_Diff.j2 k y0 y1 y2 y3) (item_Diff.j2 (k + 1) y0 y1 y2 y3))
 | 0 => ⟨fun _ _ _ r h => by simp [item_Diff.l0] at h, fun _ _ _ _ r h => by simp [item_Diff.j1] at h, fun _ _ _ _ r h => by simp [item_Diff.j2] at h⟩
 | k + 1 => by
  obtain ⟨ih0, ih1, ih2⟩ := item_Diff.mono_l k
  refine ⟨?_, ?_, ?_⟩
  ·intro y0 y1 y2
   unfold item_Diff.l0
   repeat' first
   | (with_reducible exact ih0 _ _ _)
   | (with_reducible exact ih1 _ _ _ _)
   | (with_reducible exact ih2 _ _ _ _)
   | (with_reducible exact cmp_Or_api_Errno.mono _ _)
   | (with_reducible exact item_Check.mono _ _)
   | (with_reducible exact LeO.refl _)
   | (with_reducible exact LeO.none _)
   | (with_reducible refine LeO.ite ?_ ?_)
   | (with_reducible refine LeO.bind ?_ (fun _ => ?_))
   | exact ih0 _ _ _
   | exact ih1 _ _ _ _
   | exact ih2 _ _ _ _
   | exact cmp_Or_api_Errno.mono _ _
   | exact item_Check.mono _ _
   | exact LeO.none _
   | refine LeO.ite ?_ ?_
   | refine LeO.bind ?_ (fun _ => ?_)
  ·intro y0 y1 y2 y3
   unfold item_Diff.j1
   repeat' first
   | (with_reducible exact ih0 _ _ _)
   | (with_reducible exact ih1 _ _ _ _)
   | (with_reducible exact ih2 _ _ _ _)
   | (with_reducible exact cmp_Or_api_Errno.mono _ _)
   | (with_reducible exact item_Check.mono _ _)
   | (with_reducible exact LeO.refl _)
   | (with_reducible exact LeO.none _)
   | (with_reducible refine LeO.ite ?_ ?_)
   | (with_reducible refine LeO.bind ?_ (fun _ => ?_))
   | exact ih0 _ _ _
   | exact ih1 _ _ _ _
   | exact ih2 _ _ _ _
   | exact cmp_Or_api_Errno.mono _ _
   | exact item_Check.mono _ _
   | exact LeO.none _
   | refine LeO.ite ?_ ?_
   | refine LeO.bind ?_ (fun _ => ?_)
  intro y0 y1 y2 y3
  unfold item_Diff.j2
  repeat' first
  | (with_reducible exact ih0 _ _ _)
  | (with_reducible exact ih1 _ _ _ _)
  | (with_reducible exact ih2 _ _ _ _)
  | (with_reducible exact cmp_Or_api_Errno.mono _ _)
  | (with_reducible exact item_Check.mono _ _)
  | (with_reducible exact LeO.refl _)
  | (with_reducible exact LeO.none _)
  | (with_reducible refine LeO.ite ?_ ?_)
  | (with_reducible refine LeO.bind ?_ (fun _ => ?_))
  | exact ih0 _ _ _
  | exact ih1 _ _ _ _
  | exact ih2 _ _ _ _
  | exact cmp_Or_api_Errno.mono _ _
  | exact item_Check.mono _ _
  | exact LeO.none _
  | refine LeO.ite ?_ ?_
  | refine LeO.bind ?_ (fun _ => ?_)
theorem item_Diff.mono : ∀ a0 a1 k, LeO (item_Diff.f k a0 a1) (item_Diff.f (k + 1) a0 a1) := by
 intro a0 a1 k
 obtain ⟨ih0, ih1, ih2⟩ := item_Diff.mono_l k
 unfold item_Diff.f
 repeat' first
   | (with_reducible exact ih0 _ _ _)
   | (with_reducible exact ih1 _ _ _ _)
   | (with_reducible exact ih2 _ _ _ _)
   | (with_reducible exact cmp_Or_api_Errno.mono _ _)
   | (with_reducible exact item_Check.mono _ _)
   | (with_reducible exact LeO.refl _)
   | (with_reducible exact LeO.none _)
   | (with_reducible refine LeO.ite ?_ ?_)
   | (with_reducible refine LeO.bind ?_ (fun _ => ?_))
   | exact ih0 _ _ _
   | exact ih1 _ _ _ _
   | exact ih2 _ _ _ _
   | exact cmp_Or_api_Errno.mono _ _
   | exact item_Check.mono _ _
   | exact LeO.none _
   | refine LeO.ite ?_ ?_
   | refine LeO.bind ?_ (fun _ => ?_)
def item_Diff.T6 : Bool × List (List Nat × List Nat) := (true, [([], []), ([0], [0]), ([1], [1]), ([2], [2]), ([3], [3]), ([4, 3], [3, 4]), ([5, 3], [3, 5]), ([6, 3, 3], [3, 6]), ([7], [7]), ([8, 7], [7, 8]), ([9, 7], [7, 9]), ([10, 7], [7, 10]), ([7], [7]), ([12, 7], [7, 12]), ([13, 7], [7, 13]), ([14, 7], [7, 14]), ([11, 15, 7], [7, 11, 15]), ([7, 16, 3], [3, 7, 16]), ([3, 17], [3, 17]), ([18, 7], [18])])
def item_Diff.B6 : List Nat := [0, 1, 3, 7, 15, 31, 63, 127, 255, 511, 1023, 2047, 255, 4351, 12543, 28927, 65535, 131071, 262143, 524287]
theorem item_Diff.tab6 : rtab .any (opsOf Tryz.f23 6) = item_Diff.T6 := by kernel_rfl
theorem item_Diff.bits6 : waitsOk item_Diff.T6.2 item_Diff.B6 = true := by kernel_rfl
def item_Diff.T9 : Bool × List (List Nat × List Nat) := (true, [([], []), ([0], [0]), ([1], [1]), ([2], [2]), ([3], [3]), ([4, 3], [3, 4]), ([5, 3], [3, 5]), ([3], [3]), ([7, 3], [3, 7]), ([8, 3], [3, 8]), ([6, 9, 3], [3, 6, 9]), ([3, 10], [3, 10]), ([11, 3], [11])])
def item_Diff.B9 : List Nat := [0, 1, 3, 7, 15, 31, 63, 15, 143, 399, 1023, 2047, 4095]
theorem item_Diff.tab9 : rtab .any (opsOf Tryz.f23 9) = item_Diff.T9 := by kernel_rfl
theorem item_Diff.bits9 : waitsOk item_Diff.T9.2 item_Diff.B9 = true := by kernel_rfl
def item_Diff.T11 : Bool × List (List Nat × List Nat) := (true, [([], []), ([0], [0]), ([1], [1]), ([2], [2]), ([3], [3]), ([4, 3], [3, 4]), ([5, 3], [3, 5]), ([6, 3], [3, 6]), ([3], [3]), ([8, 3], [3, 8]), ([9, 3], [3, 9]), ([10, 3], [3, 10]), ([7, 11, 3], [3, 7, 11]), ([3, 12], [3, 12]), ([13, 3], [13])])
def item_Diff.B11 : List Nat := [0, 1, 3, 7, 15, 31, 63, 127, 15, 271, 783, 1807, 4095, 8191, 16383]
theorem item_Diff.tab11 : rtab .any (opsOf Tryz.f23 11) = item_Diff.T11 := by kernel_rfl
theorem item_Diff.bits11 : waitsOk item_Diff.T11.2 item_Diff.B11 = true := by kernel_rfl
def item_Diff.T13 : Bool × List (List Nat × List Nat) := (true, [([], []), ([], []), ([1], [1]), ([2], [2]), ([3], [3]), ([], []), ([5], [5]), ([6], [6]), ([7], [7]), ([4, 8], [4, 8]), ([9], [9]), ([0, 10], [0, 10]), ([11, 11, 0, 1, 2, 3, 4, 5, 6, 7, 8, 9, 10, 11], [0, 11])])
def item_Diff.B13 : List Nat := [0, 0, 2, 6, 14, 0, 32, 96, 224, 510, 1022, 2047, 4095]
theorem item_Diff.tab13 : rtab .any (opsOf Tryz.f23 13) = item_Diff.T13 := by kernel_rfl
theorem item_Diff.bits13 : waitsOk item_Diff.T13.2 item_Diff.B13 = true := by kernel_rfl
set_option maxHeartbeats 8000000 in
set_option maxRecDepth 100000 in
theorem item_Diff.calls (k : Nat) (P0_ : Nat → Prop) (A0 : Option Addr) (c0 : Nat) (l0 : List (S77)) (P1_ : Nat → Prop) (A1 : Option Addr) (c1 : Nat) (l1 : List (S77)) (r1 : List (S60)) (r2 : Int) (w : World) (hs0 : Kd.V k77 77 w w.heap.size (fun k_ => P0_ k_) (.slice A0 l0.length c0) l0) (hs1 : Kd.V k77 77 w w.heap.size (fun k_ => P1_ k_) (.slice A1 l1.length c1) l1) (h : item_Diff.f k l0 l1 = some (r1, r2)) :
  Calls Tryz.prog 23 #[.slice A0 l0.length c0, .slice A1 l1.length c1] w fun e w' => ∃ v0_ : Value, e = .returned (.tuple #[v0_, .int .i64 r2]) ∧ Kd.R k60 60 w' w.heap.size (fun k_ => (w.heap.size ≤ k_)) v0_ r1 ∧ Below w.heap.size w w' := by
 have hu60 := Tryz.underlying60
 have hu77 := Tryz.underlying77
 have HO0 := ak_ (show Kd.V k77 77 w w.heap.size (fun k_ => ((P0_ k_ ∨ P1_ k_) ∨ w.heap.size ≤ k_)) (.slice A0 l0.length c0) l0 from Kd.V_mono hs0 (fun k_ hk => .inl (.inl hk)))
 have HO1 := ak_ (show Kd.V k77 77 w w.heap.size (fun k_ => ((P0_ k_ ∨ P1_ k_) ∨ w.heap.size ≤ k_)) (.slice A1 l1.length c1) l1 from Kd.V_mono hs1 (fun k_ hk => .inl (.inr hk)))
 have HB := ak_ (Below.refl w.heap.size w)
 have H : ((item_Check.f k l0).bind fun t177 => ((item_Check.f k l1).bind fun t178 => ((cmp_Or_api_Errno.f k (([t177, t178] : List Int))).bind fun t182 => (if t182 = 0 then (item_Diff.l0 k l0 l1 ([] : List (S60))) else (some (([] : List (S60)), t182)))))) = some (r1, r2) := h
 clear h
 replace H := Option.bind_eq_some_iff.mp H
 obtain ⟨t177, A30, H⟩ := H
 replace H : ((item_Check.f k l1).bind fun t178 => ((cmp_Or_api_Errno.f k (([t177, t178] : List Int))).bind fun t182 => (if t182 = 0 then (item_Diff.l0 k l0 l1 ([] : List (S60))) else (some (([] : List (S60)), t182))))) = some (r1, r2) := H
 have A3 := ak_ A30
 clear A30
 replace H := Option.bind_eq_some_iff.mp H
 obtain ⟨t178, A40, H⟩ := H
 replace H : ((cmp_Or_api_Errno.f k (([t177, t178] : List Int))).bind fun t182 => (if t182 = 0 then (item_Diff.l0 k l0 l1 ([] : List (S60))) else (some (([] : List (S60)), t182)))) = some (r1, r2) := H
 have A4 := ak_ A40
 clear A40
 obtain ⟨y179, hy179⟩ : ∃ y_ : List Int, y_ = (([t177, t178] : List Int)) := ⟨_, rfl⟩
 replace H : ((cmp_Or_api_Errno.f k y179).bind fun t182 => (if t182 = 0 then (item_Diff.l0 k l0 l1 ([] : List (S60))) else (some (([] : List (S60)), t182)))) = some (r1, r2) := by first | (rw [hy179]; with_reducible exact H) | (have H2_ := (Option.bind_some _ _).symm.trans H; rw [hy179]; with_reducible exact H2_) | (have H2_ := (Option.bind_some _ _).symm.trans H; with_reducible exact H2_) | with_reducible exact H | (rw [hy179]; exact H) | exact H
 have Ny179 := ak_ hy179
 clear hy179
 replace H := Option.bind_eq_some_iff.mp H
 obtain ⟨t182, A50, H⟩ := H
 replace H : (if t182 = 0 then (item_Diff.l0 k l0 l1 ([] : List (S60))) else (some (([] : List (S60)), t182))) = some (r1, r2) := H
 have A5 := ak_ A50
 clear A50
 by_cases c6 : t182 = 0
 ·rw [if_pos c6] at H
  have c6b0 : (t182 == 0) = true := beq_iff_eq.mpr c6
  have c6b1 : (t182 != 0) = false := bne_eq_false_iff_eq.mpr c6
  clear c6
  have H' := ak_ H
  clear H
  go_enter Tryz.func23, Tryz.ntmps23
  go_wp2_with (first | ((with_reducible refine gate_callee (f := 40) rfl ?_); refine gl_ (some 9) Tryz.func40 #[.slice A0 l0.length c0] ?_; (with_reducible refine (item_Check.calls k _ _ l0 t177 _ ?side1 ?side2 A3.out).mono ?_); (case side1 => repeat (first | exact (Kd.V_reads' HO0.out).2.2 | (with_reducible refine Kd.C_alloc ?_ _) | (with_reducible refine Kd.C_drewN ?_ _) | (with_reducible refine Kd.C_drew ?_))); (case side2 => exact (Kd.V_reads' HO0.out).2.1); rintro e w7 ⟨rfl, hb⟩; refine ⟨_, rfl, ?_⟩; replace HO0 := ak_ (Kd.V_below (by (with_reducible repeat (first | apply Kd.V_alloc | apply Kd.V_drewN | apply Kd.V_drew)); exact HO0.out) hb); replace HO1 := ak_ (Kd.V_below (by (with_reducible repeat (first | apply Kd.V_alloc | apply Kd.V_drewN | apply Kd.V_drew)); exact HO1.out) hb); replace HB := hb_ hb; (try clear hb); (try clear hb2); (try clear hk); (try clear hi)) | ((with_reducible refine gate_callee (f := 40) rfl ?_); refine gl_ (some 11) Tryz.func40 #[.slice A1 l1.length c1] ?_; (with_reducible refine (item_Check.calls k _ _ l1 t178 _ ?side1 ?side2 A4.out).mono ?_); (case side1 => repeat (first | exact (Kd.V_reads' HO1.out).2.2 | (with_reducible refine Kd.C_alloc ?_ _) | (with_reducible refine Kd.C_drewN ?_ _) | (with_reducible refine Kd.C_drew ?_))); (case side2 => exact (Kd.V_reads' HO1.out).2.1); rintro e w8 ⟨rfl, hb⟩; refine ⟨_, rfl, ?_⟩; replace HO0 := ak_ (Kd.V_below (by (with_reducible repeat (first | apply Kd.V_alloc | apply Kd.V_drewN | apply Kd.V_drew)); exact HO0.out) hb); replace HO1 := ak_ (Kd.V_below (by (with_reducible repeat (first | apply Kd.V_alloc | apply Kd.V_drewN | apply Kd.V_drew)); exact HO1.out) hb); replace HB := hb_ hb; (try clear hb); (try clear hb2); (try clear hk); (try clear hi)) | ((with_reducible refine gate_dst (N := 12) rfl ?_); (try (refine gate_guard (by rfl) ?_; dsimp only)); refine Kd.R_lit (Kd.int .i64) _ 23 ?hg (N := 12) ?hd (xs := ([t177, t178] : List Int)) (inner := [.int .i64 t177, .int .i64 t178]) (ok := fun _ => True) (okp := fun _ => True) ?hr ?hp (fun _ hk => hk) trivial (Below.refl _ _) (Nat.le_refl _) (by simp) ?_; (case hd => rfl); (case hg => rfl); (case hr => first | (go_simp; done) | (go_simp; rfl)); (case hp => exact (Reps.one (show Kd.M (Kd.int .i64) _ _ _ t177 [.int .i64 t177] from rfl) (Reps.one (show Kd.M (Kd.int .i64) _ _ _ t178 [.int .i64 t178] from rfl) (Reps.none _ _)))); intro v180 w9 ho10 hb hg_ hnew_; clear hg_ hnew_; (first | rw [← Ny179.out] at ho10 | (simp only [Int.reduceToNat] at ho10; rw [← Ny179.out] at ho10)); have HO181 := ak_ (Kd.R_lower (Kd.R_newM (M := fun k_ => (w.heap.size ≤ k_)) ho10 (below_size bel_) (fun k_ h_ => h_)) (below_size bel_)); replace HO0 := ak_ (Kd.V_elder' (by (with_reducible repeat (first | apply Kd.V_alloc | apply Kd.V_drewN | apply Kd.V_drew)); exact HO0.out) (Kd.R_base ho10) hb); replace HO1 := ak_ (Kd.V_elder' (by (with_reducible repeat (first | apply Kd.V_alloc | apply Kd.V_drewN | apply Kd.V_drew)); exact HO1.out) (Kd.R_base ho10) hb); replace HB := hb_ hb; clear hb ho10; obtain ⟨Ao11, co11, eo11⟩ := Kd.R_slice HO181.out; subst eo11) | ((with_reducible refine gate_callee (f := 48) rfl ?_); refine gl_ (some 13) Tryz.func48 #[.slice Ao11 y179.length co11] ?_; (with_reducible refine (cmp_Or_api_Errno.calls k _ _ y179 t182 _ ?side1 ?side2 A5.out).mono ?_); (case side1 => exact cr_ HO181); (case side2 => exact (Kd.R_reads' HO181.out).2.1); rintro e w' ⟨rfl, ⟨nd, rfl⟩⟩; refine ⟨_, rfl, ?_⟩))
  (try (refine wp_scope_post ?_; go_wp2_with (first | ((with_reducible refine gate_callee (f := 40) rfl ?_); refine gl_ (some 9) Tryz.func40 #[.slice A0 l0.length c0] ?_; (with_reducible refine (item_Check.calls k _ _ l0 t177 _ ?sideB1 ?sideB2 A3.out).mono ?_); (case sideB1 => repeat (first | exact (Kd.V_reads' HO0.out).2.2 | (with_reducible refine Kd.C_alloc ?_ _) | (with_reducible refine Kd.C_drewN ?_ _) | (with_reducible refine Kd.C_drew ?_))); (case sideB2 => exact (Kd.V_reads' HO0.out).2.1); rintro e w7 ⟨rfl, hb⟩; refine ⟨_, rfl, ?_⟩; replace HO0 := ak_ (Kd.V_below (by (with_reducible repeat (first | apply Kd.V_alloc | apply Kd.V_drewN | apply Kd.V_drew)); exact HO0.out) hb); replace HO1 := ak_ (Kd.V_below (by (with_reducible repeat (first | apply Kd.V_alloc | apply Kd.V_drewN | apply Kd.V_drew)); exact HO1.out) hb); replace HB := hb_ hb; (try clear hb); (try clear hb2); (try clear hk); (try clear hi)) | ((with_reducible refine gate_callee (f := 40) rfl ?_); refine gl_ (some 11) Tryz.func40 #[.slice A1 l1.length c1] ?_; (with_reducible refine (item_Check.calls k _ _ l1 t178 _ ?sideB1 ?sideB2 A4.out).mono ?_); (case sideB1 => repeat (first | exact (Kd.V_reads' HO1.out).2.2 | (with_reducible refine Kd.C_alloc ?_ _) | (with_reducible refine Kd.C_drewN ?_ _) | (with_reducible refine Kd.C_drew ?_))); (case sideB2 => exact (Kd.V_reads' HO1.out).2.1); rintro e w8 ⟨rfl, hb⟩; refine ⟨_, rfl, ?_⟩; replace HO0 := ak_ (Kd.V_below (by (with_reducible repeat (first | apply Kd.V_alloc | apply Kd.V_drewN | apply Kd.V_drew)); exact HO0.out) hb); replace HO1 := ak_ (Kd.V_below (by (with_reducible repeat (first | apply Kd.V_alloc | apply Kd.V_drewN | apply Kd.V_drew)); exact HO1.out) hb); replace HB := hb_ hb; (try clear hb); (try clear hb2); (try clear hk); (try clear hi)) | ((with_reducible refine gate_dst (N := 12) rfl ?_); (try (refine gate_guard (by rfl) ?_; dsimp only)); refine Kd.R_lit (Kd.int .i64) _ 23 ?hg (N := 12) ?hd (xs := ([t177, t178] : List Int)) (inner := [.int .i64 t177, .int .i64 t178]) (ok := fun _ => True) (okp := fun _ => True) ?hr ?hp (fun _ hk => hk) trivial (Below.refl _ _) (Nat.le_refl _) (by simp) ?_; (case hd => rfl); (case hg => rfl); (case hr => first | (go_simp; done) | (go_simp; rfl)); (case hp => exact (Reps.one (show Kd.M (Kd.int .i64) _ _ _ t177 [.int .i64 t177] from rfl) (Reps.one (show Kd.M (Kd.int .i64) _ _ _ t178 [.int .i64 t178] from rfl) (Reps.none _ _)))); intro v180 w9 ho10 hb hg_ hnew_; clear hg_ hnew_; (first | rw [← Ny179.out] at ho10 | (simp only [Int.reduceToNat] at ho10; rw [← Ny179.out] at ho10)); have HO181 := ak_ (Kd.R_lower (Kd.R_newM (M := fun k_ => (w.heap.size ≤ k_)) ho10 (below_size bel_) (fun k_ h_ => h_)) (below_size bel_)); replace HO0 := ak_ (Kd.V_elder' (by (with_reducible repeat (first | apply Kd.V_alloc | apply Kd.V_drewN | apply Kd.V_drew)); exact HO0.out) (Kd.R_base ho10) hb); replace HO1 := ak_ (Kd.V_elder' (by (with_reducible repeat (first | apply Kd.V_alloc | apply Kd.V_drewN | apply Kd.V_drew)); exact HO1.out) (Kd.R_base ho10) hb); replace HB := hb_ hb; clear hb ho10; obtain ⟨Ao11, co11, eo11⟩ := Kd.R_slice HO181.out; subst eo11) | ((with_reducible refine gate_callee (f := 48) rfl ?_); refine gl_ (some 13) Tryz.func48 #[.slice Ao11 y179.length co11] ?_; (with_reducible refine (cmp_Or_api_Errno.calls k _ _ y179 t182 _ ?sideB1 ?sideB2 A5.out).mono ?_); (case sideB1 => exact cr_ HO181); (case sideB2 => exact (Kd.R_reads' HO181.out).2.1); rintro e w' ⟨rfl, ⟨nd, rfl⟩⟩; refine ⟨_, rfl, ?_⟩))))
  (try (go_step3; go_wp2_with (first | ((with_reducible refine gate_callee (f := 40) rfl ?_); refine gl_ (some 9) Tryz.func40 #[.slice A0 l0.length c0] ?_; (with_reducible refine (item_Check.calls k _ _ l0 t177 _ ?sideC1 ?sideC2 A3.out).mono ?_); (case sideC1 => repeat (first | exact (Kd.V_reads' HO0.out).2.2 | (with_reducible refine Kd.C_alloc ?_ _) | (with_reducible refine Kd.C_drewN ?_ _) | (with_reducible refine Kd.C_drew ?_))); (case sideC2 => exact (Kd.V_reads' HO0.out).2.1); rintro e w7 ⟨rfl, hb⟩; refine ⟨_, rfl, ?_⟩; replace HO0 := ak_ (Kd.V_below (by (with_reducible repeat (first | apply Kd.V_alloc | apply Kd.V_drewN | apply Kd.V_drew)); exact HO0.out) hb); replace HO1 := ak_ (Kd.V_below (by (with_reducible repeat (first | apply Kd.V_alloc | apply Kd.V_drewN | apply Kd.V_drew)); exact HO1.out) hb); replace HB := hb_ hb; (try clear hb); (try clear hb2); (try clear hk); (try clear hi)) | ((with_reducible refine gate_callee (f := 40) rfl ?_); refine gl_ (some 11) Tryz.func40 #[.slice A1 l1.length c1] ?_; (with_reducible refine (item_Check.calls k _ _ l1 t178 _ ?sideC1 ?sideC2 A4.out).mono ?_); (case sideC1 => repeat (first | exact (Kd.V_reads' HO1.out).2.2 | (with_reducible refine Kd.C_alloc ?_ _) | (with_reducible refine Kd.C_drewN ?_ _) | (with_reducible refine Kd.C_drew ?_))); (case sideC2 => exact (Kd.V_reads' HO1.out).2.1); rintro e w8 ⟨rfl, hb⟩; refine ⟨_, rfl, ?_⟩; replace HO0 := ak_ (Kd.V_below (by (with_reducible repeat (first | apply Kd.V_alloc | apply Kd.V_drewN | apply Kd.V_drew)); exact HO0.out) hb); replace HO1 := ak_ (Kd.V_below (by (with_reducible repeat (first | apply Kd.V_alloc | apply Kd.V_drewN | apply Kd.V_drew)); exact HO1.out) hb); replace HB := hb_ hb; (try clear hb); (try clear hb2); (try clear hk); (try clear hi)) | ((with_reducible refine gate_dst (N := 12) rfl ?_); (try (refine gate_guard (by rfl) ?_; dsimp only)); refine Kd.R_lit (Kd.int .i64) _ 23 ?hg (N := 12) ?hd (xs := ([t177, t178] : List Int)) (inner := [.int .i64 t177, .int .i64 t178]) (ok := fun _ => True) (okp := fun _ => True) ?hr ?hp (fun _ hk => hk) trivial (Below.refl _ _) (Nat.le_refl _) (by simp) ?_; (case hd => rfl); (case hg => rfl); (case hr => first | (go_simp; done) | (go_simp; rfl)); (case hp => exact (Reps.one (show Kd.M (Kd.int .i64) _ _ _ t177 [.int .i64 t177] from rfl) (Reps.one (show Kd.M (Kd.int .i64) _ _ _ t178 [.int .i64 t178] from rfl) (Reps.none _ _)))); intro v180 w9 ho10 hb hg_ hnew_; clear hg_ hnew_; (first | rw [← Ny179.out] at ho10 | (simp only [Int.reduceToNat] at ho10; rw [← Ny179.out] at ho10)); have HO181 := ak_ (Kd.R_lower (Kd.R_newM (M := fun k_ => (w.heap.size ≤ k_)) ho10 (below_size bel_) (fun k_ h_ => h_)) (below_size bel_)); replace HO0 := ak_ (Kd.V_elder' (by (with_reducible repeat (first | apply Kd.V_alloc | apply Kd.V_drewN | apply Kd.V_drew)); exact HO0.out) (Kd.R_base ho10) hb); replace HO1 := ak_ (Kd.V_elder' (by (with_reducible repeat (first | apply Kd.V_alloc | apply Kd.V_drewN | apply Kd.V_drew)); exact HO1.out) (Kd.R_base ho10) hb); replace HB := hb_ hb; clear hb ho10; obtain ⟨Ao11, co11, eo11⟩ := Kd.R_slice HO181.out; subst eo11) | ((with_reducible refine gate_callee (f := 48) rfl ?_); refine gl_ (some 13) Tryz.func48 #[.slice Ao11 y179.length co11] ?_; (with_reducible refine (cmp_Or_api_Errno.calls k _ _ y179 t182 _ ?sideC1 ?sideC2 A5.out).mono ?_); (case sideC1 => exact cr_ HO181); (case sideC2 => exact (Kd.R_reads' HO181.out).2.1); rintro e w' ⟨rfl, ⟨nd, rfl⟩⟩; refine ⟨_, rfl, ?_⟩))))
  go_loopg [0, 1, 7] k (fun kq v0 v1 v7 w' => ∃ (x0_1 : List (S77)) (x1_1 : List (S77)) (x7_1 : List (S60)), Aside0 (item_Diff.l0 kq x0_1 x1_1 x7_1 = some (r1, r2)) ∧ Aside0 (kq ≤ k) ∧ Aside0 (Kd.V k77 77 w' w.heap.size (fun k_ => ((P0_ k_ ∨ P1_ k_) ∨ w.heap.size ≤ k_) ∧ some k_ ≠ (v7 : Value).ownBlock) v0 x0_1) ∧ Aside0 (Kd.V k77 77 w' w.heap.size (fun k_ => ((P0_ k_ ∨ P1_ k_) ∨ w.heap.size ≤ k_) ∧ some k_ ≠ (v7 : Value).ownBlock) v1 x1_1) ∧ Aside0 (Kd.R k60 60 w' w.heap.size (fun k_ => (w.heap.size ≤ k_)) v7 x7_1) ∧ Aside0 (Below w.heap.size w w'))
  case atStart => exact ⟨(l0), (l1), (([] : List (S60))), H', ⟨Nat.le_refl _⟩, ⟨by (with_reducible repeat (first | apply Kd.V_alloc | apply Kd.V_drewN | apply Kd.V_drew)); exact Kd.V_mono HO0.out (fun _ hk => ⟨hk.1, (by simp [Value.ownBlock])⟩)⟩, ⟨by (with_reducible repeat (first | apply Kd.V_alloc | apply Kd.V_drewN | apply Kd.V_drew)); exact Kd.V_mono HO1.out (fun _ hk => ⟨hk.1, (by simp [Value.ownBlock])⟩)⟩, ⟨by first | exact Kd.R_nil _ _ _ _ _ | exact Kd.N_nil _ _ _ _ _ | exact Kd.V_nil _ _ _ _ _ | exact Kd.Q_nil _ _ _ _ _ | exact Kd.S_nil _ _ _ _ _⟩, ⟨bel_⟩⟩
  case round =>
   clear H'
   try clear c1
   try clear c2
   try clear p2
   try clear c4
   try clear c6
   try clear c6b0
   try clear c6b1
   obtain ⟨x0_1, x1_1, x7_1, HA, HK1, HO_0, HO_1, HO_7, HB⟩ := hrel
   cases gk with
   | zero => exact absurd HA.out (by simp [item_Diff.l0])
   | succ k1 =>
    have H := HA.out
    clear HA
    simp only [item_Diff.l0] at H
    by_cases c12 : (wrap64 ((x0_1.length : Int) + (x1_1.length : Int))) > 0
    ·rw [if_pos c12] at H
     have c12b0 : decide (0 < (wrap64 ((x0_1.length : Int) + (x1_1.length : Int)))) = true := decide_eq_true c12
     clear c12
     have HC13 := ak_ H
     clear H
     obtain ⟨Ao14, co14, eo14⟩ := Kd.V_slice HO_0.out
     subst eo14
     obtain ⟨Ao15, co15, eo15⟩ := Kd.V_slice HO_1.out
     subst eo15
     go_upto_region 6 with (fail)
     go_cut [23] (fun v23 wc => ∃ (kq : Nat) (x23_12 : Bool), v23 = .bool x23_12 ∧ Aside0 (item_Diff.j1 kq x0_1 x1_1 x7_1 x23_12 = some (r1, r2)) ∧ Aside0 (kq ≤ k1) ∧ Aside0 (Kd.V k77 77 wc w.heap.size (fun k_ => ((P0_ k_ ∨ P1_ k_) ∨ w.heap.size ≤ k_) ∧ some k_ ≠ (u7 : Value).ownBlock) (.slice Ao14 x0_1.length co14) x0_1) ∧ Aside0 (Kd.V k77 77 wc w.heap.size (fun k_ => ((P0_ k_ ∨ P1_ k_) ∨ w.heap.size ≤ k_) ∧ some k_ ≠ (u7 : Value).ownBlock) (.slice Ao15 x1_1.length co15) x1_1) ∧ Aside0 (Kd.R k60 60 wc w.heap.size (fun k_ => (w.heap.size ≤ k_)) u7 x7_1) ∧ Aside0 (Below w.heap.size w wc))
     case first =>
      have H := HC13.out
      clear HC13
      by_cases c16 : (x1_1.length : Int) = 0
      ·rw [if_pos c16] at H
       have c16b0 : ((x1_1.length : Int) == 0) = true := beq_iff_eq.mpr c16
       have c16b1 : ((x1_1.length : Int) != 0) = false := bne_eq_false_iff_eq.mpr c16
       clear c16
       (first | rw [c16b0] | (simp only [i64_w, i32_w]; rw [c16b0]) | skip)
       have H' := ak_ H
       clear H
       try go_wp2
       replace HO_0 := ak_ (Kd.V_drew HO_0.out)
       replace HO_1 := ak_ (Kd.V_drew HO_1.out)
       replace HO_7 := ak_ (Kd.R_drew HO_7.out)
       replace HB := ak_ (below_drew1 HB.out)
       refine start_ (n := 20) (S := fun w' => True) (ds := []) #[false, false, false, false, false, false, false, false, false, false, false, false, false, false, false, false, false, false, false, false] (by kernel_rfl) rfl rfl trivial (fun hHeld => ?_); refine with_tabW item_Diff.tab6 item_Diff.bits6 (fun HT_ HW_ => ?_)
       generalize wr.drew = w17 at HO_0 HO_1 HO_7 HB hHeld ⊢
       refine pu_ 0 24 ?_
       refine pu_ 1 25 ?_
       refine pu_ 2 26 ?_
       refine pu_ 3 27 ?_
       refine un_ 4 28 ?_
       refine un_ 5 29 ?_
       refine un_ 6 30 ?_
       refine un_ 7 31 ?_
       refine un_ 8 32 ?_
       refine un_ 9 33 ?_
       refine un_ 10 34 ?_
       refine un_ 11 35 ?_
       refine un_ 12 36 ?_
       refine un_ 13 37 ?_
       refine un_ 14 38 ?_
       refine un_ 15 39 ?_
       refine un_ 16 40 ?_
       refine un_ 17 41 ?_
       refine pu_ 18 42 ?_
       refine pu_ 19 23 ?_
       refine done_ (done_of HT_.out (by kernel_rfl)) ?_
       try go_wp2
       go_meet
       case rel => exact ⟨_, (true), (by first | rfl | (simp; done) | (simp [*]; done)), H', ⟨by have := HK1.out; first | omega | exact Nat.le_refl _⟩, ⟨by (with_reducible repeat (first | apply Kd.V_alloc | apply Kd.V_drewN | apply Kd.V_drew)); exact HO_0.out⟩, ⟨by (with_reducible repeat (first | apply Kd.V_alloc | apply Kd.V_drewN | apply Kd.V_drew)); exact HO_1.out⟩, ⟨ra_ HO_7⟩, ⟨bel_⟩⟩
      rw [if_neg c16] at H
      have c16b0 : ((x1_1.length : Int) == 0) = false := beq_eq_false_iff_ne.mpr c16
      have c16b1 : ((x1_1.length : Int) != 0) = true := bne_iff_ne.mpr c16
      have c16b2 : ¬ (x1_1 = []) := fun h_ => c16 (by rw [h_]; rfl)
      (first | rw [c16b0] | (simp only [i64_w, i32_w]; rw [c16b0]) | skip)
      by_cases c18 : (x0_1.length : Int) > 0
      ·rw [if_pos c18] at H
       have c18b0 : decide (0 < (x0_1.length : Int)) = true := decide_eq_true c18
       have c18b1 : decide (0 < x0_1.length) = true := decide_eq_true (by omega)
       clear c18
       by_cases c19 : 0 < (x0_1.length : Int)
       ·rw [if_pos c19] at H
        have c19b0 : decide (0 < (x0_1.length : Int)) = true := decide_eq_true c19
        have c19b1 : decide (0 < x0_1.length) = true := decide_eq_true (by omega)
        clear c19
        by_cases c20 : 0 < (x1_1.length : Int)
        ·rw [if_pos c20] at H
         have c20b0 : decide (0 < (x1_1.length : Int)) = true := decide_eq_true c20
         have c20b1 : decide (0 < x1_1.length) = true := decide_eq_true (by omega)
         clear c20
         have H' := ak_ H
         clear H
         try go_wp2
         replace HO_0 := ak_ (Kd.V_drew HO_0.out)
         replace HO_1 := ak_ (Kd.V_drew HO_1.out)
         replace HO_7 := ak_ (Kd.R_drew HO_7.out)
         replace HB := ak_ (below_drew1 HB.out)
         have p183 : 0 ≤ (0 : Int) := (by omega)
         have q183 : 0 < (x0_1.length : Int) := of_decide_eq_true (by first | (with_reducible assumption) | assumption)
         obtain ⟨ad183, e183, hx183_0, hx183_1⟩ := at_T77 (Kd.V_reads' HO_0.out).2.2 0 p183 q183
         cases e183
         have qi183 : (0 < x0_1.length) = True := eq_true (by omega)
         (try rw [show ((0 : Int)).toNat = 0 from rfl] at hx183_0)
         (try rw [show 0 * 2 = 0 from rfl] at hx183_0)
         (try rw [Addr.add_zero'] at hx183_0)
         (try rw [show ((0 : Int)).toNat = 0 from rfl] at hx183_1)
         (try rw [show 0 * 2 = 0 from rfl] at hx183_1)
         (try rw [Addr.add_zero'] at hx183_1)
         replace p183 := eq_true p183
         replace q183 := eq_true q183
         have p184 : 0 ≤ (0 : Int) := (by omega)
         have q184 : 0 < (x1_1.length : Int) := of_decide_eq_true (by first | (with_reducible assumption) | assumption)
         obtain ⟨ad184, e184, hx184_0, hx184_1⟩ := at_T77 (Kd.V_reads' HO_1.out).2.2 0 p184 q184
         cases e184
         have qi184 : (0 < x1_1.length) = True := eq_true (by omega)
         (try rw [show ((0 : Int)).toNat = 0 from rfl] at hx184_0)
         (try rw [show 0 * 2 = 0 from rfl] at hx184_0)
         (try rw [Addr.add_zero'] at hx184_0)
         (try rw [show ((0 : Int)).toNat = 0 from rfl] at hx184_1)
         (try rw [show 0 * 2 = 0 from rfl] at hx184_1)
         (try rw [Addr.add_zero'] at hx184_1)
         replace p184 := eq_true p184
         replace q184 := eq_true q184
         refine start_ (n := 20) (S := fun w' => w'.cell? ad183 = some (.string ((rd_T77 x0_1 0).f0)) ∧ w'.cell? ⟨ad183.block, ad183.off + 1, none⟩ = some (.string ((rd_T77 x0_1 0).f1)) ∧ w'.cell? ad184 = some (.string ((rd_T77 x1_1 0).f0)) ∧ w'.cell? ⟨ad184.block, ad184.off + 1, none⟩ = some (.string ((rd_T77 x1_1 0).f1))) (ds := []) #[false, false, false, false, false, false, false, false, false, false, false, false, false, false, false, false, false, false, false, false] (by kernel_rfl) rfl rfl ⟨hx183_0, hx183_1, hx184_0, hx184_1⟩ (fun hHeld => ?_); refine with_tabW item_Diff.tab6 item_Diff.bits6 (fun HT_ HW_ => ?_)
         generalize wr.drew = w21 at HO_0 HO_1 HO_7 HB hx183_0 hx183_1 hx184_0 hx184_1 hHeld ⊢
         refine pu_ 0 24 ?_
         refine pu_ 1 25 ?_
         refine pu_ 2 26 ?_
         refine pu_ 3 27 ?_
         refine pu_ 4 28 ?_
         refine pu_ 5 29 ?_
         refine pu_ 6 30 ?_
         refine pu_ 7 31 ?_
         refine pu_ 8 32 ?_
         refine pu_ 9 33 ?_
         refine pu_ 10 34 ?_
         refine pu_ 12 36 ?_
         refine pu_ 13 37 ?_
         refine pu_ 14 38 ?_
         refine tk4_ 11 35 ?_
         refine tk4_ 15 39 ?_
         refine pu_ 16 40 ?_
         refine pu_ 17 41 ?_
         refine pu_ 18 42 ?_
         refine pu_ 19 23 ?_
         refine done_ (done_of HT_.out (by kernel_rfl)) ?_
         try go_wp2
         go_meet
         case rel => exact ⟨_, ((Op.bytesLess (((rd_T77 x0_1 0).f0).toList) (((rd_T77 x1_1 0).f0).toList))), (by first | rfl | (simp; done) | (simp [*]; done)), H', ⟨by have := HK1.out; first | omega | exact Nat.le_refl _⟩, ⟨by (with_reducible repeat (first | apply Kd.V_alloc | apply Kd.V_drewN | apply Kd.V_drew)); exact HO_0.out⟩, ⟨by (with_reducible repeat (first | apply Kd.V_alloc | apply Kd.V_drewN | apply Kd.V_drew)); exact HO_1.out⟩, ⟨ra_ HO_7⟩, ⟨bel_⟩⟩
        rw [if_neg c20] at H
        exact absurd H (by simp)
       rw [if_neg c19] at H
       exact absurd H (by simp)
      rw [if_neg c18] at H
      have c18b0 : decide (0 < (x0_1.length : Int)) = false := decide_eq_false c18
      have c18b1 : decide (0 < x0_1.length) = false := decide_eq_false (by omega)
      clear c18
      have H' := ak_ H
      clear H
      try go_wp2
      replace HO_0 := ak_ (Kd.V_drew HO_0.out)
      replace HO_1 := ak_ (Kd.V_drew HO_1.out)
      replace HO_7 := ak_ (Kd.R_drew HO_7.out)
      replace HB := ak_ (below_drew1 HB.out)
      refine start_ (n := 20) (S := fun w' => True) (ds := []) #[false, false, false, false, false, false, false, false, false, false, false, false, false, false, false, false, false, false, false, false] (by kernel_rfl) rfl rfl trivial (fun hHeld => ?_); refine with_tabW item_Diff.tab6 item_Diff.bits6 (fun HT_ HW_ => ?_)
      generalize wr.drew = w22 at HO_0 HO_1 HO_7 HB hHeld ⊢
      refine pu_ 0 24 ?_
      refine pu_ 1 25 ?_
      refine pu_ 2 26 ?_
      refine pu_ 3 27 ?_
      refine pu_ 4 28 ?_
      refine pu_ 5 29 ?_
      refine pu_ 6 30 ?_
      refine pu_ 7 31 ?_
      refine un_ 8 32 ?_
      refine un_ 9 33 ?_
      refine un_ 10 34 ?_
      refine un_ 11 35 ?_
      refine un_ 12 36 ?_
      refine un_ 13 37 ?_
      refine un_ 14 38 ?_
      refine un_ 15 39 ?_
      refine un_ 16 40 ?_
      refine pu_ 17 41 ?_
      refine pu_ 18 42 ?_
      refine pu_ 19 23 ?_
      refine done_ (done_of HT_.out (by kernel_rfl)) ?_
      try go_wp2
      go_meet
      case rel => exact ⟨_, (false), (by first | rfl | (simp; done) | (simp [*]; done)), H', ⟨by have := HK1.out; first | omega | exact Nat.le_refl _⟩, ⟨by (with_reducible repeat (first | apply Kd.V_alloc | apply Kd.V_drewN | apply Kd.V_drew)); exact HO_0.out⟩, ⟨by (with_reducible repeat (first | apply Kd.V_alloc | apply Kd.V_drewN | apply Kd.V_drew)); exact HO_1.out⟩, ⟨ra_ HO_7⟩, ⟨bel_⟩⟩
     case rest =>
      clear HC13
      try clear c1
      try clear p1
      try clear q1
      try clear hx1
      try clear qi1
      try clear c2
      try clear p2
      try clear c4
      try clear c6
      try clear c6b0
      try clear c6b1
      try clear p6
      try clear c12
      try clear c12b0
      try clear c16
      try clear c16b0
      try clear c16b1
      try clear c16b2
      try clear c18
      try clear c18b0
      try clear c18b1
      try clear p18
      try clear q18
      try clear hx18
      try clear qi18
      try clear c19
      try clear c19b0
      try clear c19b1
      try clear c20
      try clear c20b0
      try clear c20b1
      try clear hx183_0
      try clear hx183_1
      try clear hx184_0
      try clear hx184_1
      try clear p183
      try clear p184
      try clear p2
      try clear q183
      try clear q184
      obtain ⟨kq, x23_12, rfl, HA, HJ12, HO_0, HO_1, HO_7, HB⟩ := hcut
      cases kq with
      | zero => exact absurd HA.out (by simp [item_Diff.j1])
      | succ kj12 =>
       have H := HA.out
       clear HA
       simp only [item_Diff.j1] at H
       by_cases c23 : x23_12 = true
       ·subst c23
        have H1 : (if 0 < (x0_1.length : Int) then (if x7_1.length < 3518437208883 then (if 1 ≤ (x0_1.length : Int) then (item_Diff.l0 kj12 (x0_1.drop 1) x1_1 (x7_1 ++ [(⟨(rd_T77 x0_1 0).f0, false, (⟨#[]⟩ : ByteArray)⟩ : S60)])) else (none)) else (none)) else (none)) = some (r1, r2) := by rw [if_pos rfl] at H; exact H
        clear H
        have H := H1
        clear H1
        by_cases c24 : 0 < (x0_1.length : Int)
        ·rw [if_pos c24] at H
         have c24b0 : decide (0 < (x0_1.length : Int)) = true := decide_eq_true c24
         have c24b1 : decide (0 < x0_1.length) = true := decide_eq_true (by omega)
         clear c24
         by_cases c25 : x7_1.length < 3518437208883
         ·rw [if_pos c25] at H
          have LMc25 := ak_ c25
          clear c25
          obtain ⟨y186, hy186⟩ : ∃ y_ : List (S60), y_ = (x7_1 ++ [(⟨(rd_T77 x0_1 0).f0, false, (⟨#[]⟩ : ByteArray)⟩ : S60)]) := ⟨_, rfl⟩
          replace H : (if 1 ≤ (x0_1.length : Int) then (item_Diff.l0 kj12 (x0_1.drop 1) x1_1 y186) else (none)) = some (r1, r2) := by first | (rw [hy186]; with_reducible exact H) | (have H2_ := (Option.bind_some _ _).symm.trans H; rw [hy186]; with_reducible exact H2_) | (have H2_ := (Option.bind_some _ _).symm.trans H; with_reducible exact H2_) | with_reducible exact H | (rw [hy186]; exact H) | exact H
          have Ny186 := ak_ hy186
          clear hy186
          by_cases c26 : 1 ≤ (x0_1.length : Int)
          ·rw [if_pos c26] at H
           have c26b0 := eq_true c26
           have c26b1 : decide (1 ≤ (x0_1.length : Int)) = true := decide_eq_true c26
           clear c26
           obtain ⟨y189, hy189⟩ : ∃ y_ : List (S77), y_ = (x0_1.drop 1) := ⟨_, rfl⟩
           replace H : (item_Diff.l0 kj12 y189 x1_1 y186) = some (r1, r2) := by first | (rw [hy189]; with_reducible exact H) | (have H2_ := (Option.bind_some _ _).symm.trans H; rw [hy189]; with_reducible exact H2_) | (have H2_ := (Option.bind_some _ _).symm.trans H; with_reducible exact H2_) | with_reducible exact H | (rw [hy189]; exact H) | exact H
           have Ny189 := ak_ hy189
           clear hy189
           have H' := ak_ H
           clear H
           have p185 : 0 ≤ (0 : Int) := (by omega)
           have q185 : 0 < (x0_1.length : Int) := of_decide_eq_true (by first | (with_reducible assumption) | assumption)
           obtain ⟨ad185, e185, hx185_0, hx185_1⟩ := at_T77 (Kd.V_reads' HO_0.out).2.2 0 p185 q185
           cases e185
           have qi185 : (0 < x0_1.length) = True := eq_true (by omega)
           (try rw [show ((0 : Int)).toNat = 0 from rfl] at hx185_0)
           (try rw [show 0 * 2 = 0 from rfl] at hx185_0)
           (try rw [Addr.add_zero'] at hx185_0)
           (try rw [show ((0 : Int)).toNat = 0 from rfl] at hx185_1)
           (try rw [show 0 * 2 = 0 from rfl] at hx185_1)
           (try rw [Addr.add_zero'] at hx185_1)
           replace p185 := eq_true p185
           replace q185 := eq_true q185
           go_wp2_with (first | ((with_reducible refine gate_builtin (b := .append) (xs := #[.tmp 43, .tmp 49]) rfl ?_); (try (refine gate_guard (by rfl) ?_; dsimp only)); at_builtin; refine Kd.R_append k60 (w0 := w) w.heap.size rfl (.tmp 43) (.tmp 49) 43 60 (.agg #[(.string ⟨#[]⟩), (.bool false), (.string ⟨#[]⟩)]) 40 rfl Tryz.underlying43 info60 rfl (by decide) (by omega) u7 x7_1 (⟨(rd_T77 x0_1 0).f0, false, (⟨#[]⟩ : ByteArray)⟩ : S60) [.string ((rd_T77 x0_1 0).f0), .bool false, .string (⟨#[]⟩ : ByteArray)] (fun k_ => (w.heap.size ≤ k_)) (fun _ => False) rfl rfl ?aP (fun _ hk => hk.elim) ?aF ?aO ?aB ?aS ?aL ?_; (case aP => exact k60_mkM _ _ _ (⟨(rd_T77 x0_1 0).f0, false, (⟨#[]⟩ : ByteArray)⟩ : S60)); (case aB => exact bel_); (case aF => exact (fun k_ hk => (Nat.le_trans (below_size bel_) hk))); (case aO => exact (ra_ HO_7)); (case aS => exact (below_size bel_)); (case aL => have := LMc25.out; omega); intro v187 w27 ho hb hg hat; rw [← Ny186.out] at ho; have HO188 := ak_ (ho); replace HO_0 := ak_ (Kd.V_afterv (ok := (fun k_ => ((P0_ k_ ∨ P1_ k_) ∨ w.heap.size ≤ k_))) (by (with_reducible repeat (first | apply Kd.V_alloc | apply Kd.V_drewN | apply Kd.V_drew)); exact HO_0.out) hg hat); replace HO_1 := ak_ (Kd.V_afterv (ok := (fun k_ => ((P0_ k_ ∨ P1_ k_) ∨ w.heap.size ≤ k_))) (by (with_reducible repeat (first | apply Kd.V_alloc | apply Kd.V_drewN | apply Kd.V_drew)); exact HO_1.out) hg hat); replace HB := ak_ (hb); clear HO_7; clear ho hb hg hat; have q28 : (1 : Int) ≤ ((x0_1.length : Int) : Int) := of_decide_eq_true (by first | (with_reducible assumption) | assumption); obtain ⟨i028, hi028, _, hsz28, _⟩ := info_parts info77; have hroom28 : x0_1.length ≤ co14 := (Kd.V_reads' HO_0.out).2.1; have hC28 : Kd.F k77 _ _ (some ad185) x0_1.length x0_1 := (Kd.V_at (base := w.heap.size) HO_0.out).2.2; have hcut28 := cut_from (P := Tryz.prog) 22 77 .i64 Tryz.underlying22 hi028 2 hsz28 (some ad185) x0_1.length co14 1 (by omega) q28; have hr28 := Kd.F_cut (m := (1 : Int).toNat) (c := co14) hC28 (by omega) hroom28; obtain ⟨A28, hA28⟩ : ∃ z_, z_ = (if co14 = (1 : Int).toNat then (some ad185) else ((some ad185) : Option Addr).map (·.add ((1 : Int).toNat * 2))) := ⟨_, rfl⟩; obtain ⟨c28, hc28⟩ : ∃ z_, z_ = co14 - (1 : Int).toNat := ⟨_, rfl⟩; have hy28 : y189.length = x0_1.length - (1 : Int).toNat := (by rw [Ny189.out, List.length_drop] <;> omega); rw [show (x0_1).drop (1 : Int).toNat = y189 from Ny189.out.symm] at hr28; replace hr28 : Kd.F k77 _ _ A28 y189.length y189 := (by rw [hA28]; exact hr28); rw [← hy28, ← hA28, ← hc28] at hcut28; have HO193 := ak_ (show Kd.V k77 77 _ w.heap.size _ (.slice A28 y189.length c28) y189 from Kd.V_mk (by rw [hy28, hc28]; exact Nat.sub_le_sub_right hroom28 _) hr28); have HC193 := ak_ (show y189.length ≤ c28 from by rw [hy28, hc28]; exact Nat.sub_le_sub_right hroom28 _); clear hr28 hC28 hroom28 hi028 hsz28 hc28; have KY28 := ak_ hy28; have KA28 := ak_ hA28; clear hy28 hA28; replace q28 := eq_true q28))
           (try (refine wp_scope_post ?_; go_wp2_with (first | ((with_reducible refine gate_builtin (b := .append) (xs := #[.tmp 43, .tmp 49]) rfl ?_); (try (refine gate_guard (by rfl) ?_; dsimp only)); at_builtin; refine Kd.R_append k60 (w0 := w) w.heap.size rfl (.tmp 43) (.tmp 49) 43 60 (.agg #[(.string ⟨#[]⟩), (.bool false), (.string ⟨#[]⟩)]) 40 rfl Tryz.underlying43 info60 rfl (by decide) (by omega) u7 x7_1 (⟨(rd_T77 x0_1 0).f0, false, (⟨#[]⟩ : ByteArray)⟩ : S60) [.string ((rd_T77 x0_1 0).f0), .bool false, .string (⟨#[]⟩ : ByteArray)] (fun k_ => (w.heap.size ≤ k_)) (fun _ => False) rfl rfl ?aP (fun _ hk => hk.elim) ?aF ?aO ?aB ?aS ?aL ?_; (case aP => exact k60_mkM _ _ _ (⟨(rd_T77 x0_1 0).f0, false, (⟨#[]⟩ : ByteArray)⟩ : S60)); (case aB => exact bel_); (case aF => exact (fun k_ hk => (Nat.le_trans (below_size bel_) hk))); (case aO => exact (ra_ HO_7)); (case aS => exact (below_size bel_)); (case aL => have := LMc25.out; omega); intro v187 w27 ho hb hg hat; rw [← Ny186.out] at ho; have HO188 := ak_ (ho); replace HO_0 := ak_ (Kd.V_afterv (ok := (fun k_ => ((P0_ k_ ∨ P1_ k_) ∨ w.heap.size ≤ k_))) (by (with_reducible repeat (first | apply Kd.V_alloc | apply Kd.V_drewN | apply Kd.V_drew)); exact HO_0.out) hg hat); replace HO_1 := ak_ (Kd.V_afterv (ok := (fun k_ => ((P0_ k_ ∨ P1_ k_) ∨ w.heap.size ≤ k_))) (by (with_reducible repeat (first | apply Kd.V_alloc | apply Kd.V_drewN | apply Kd.V_drew)); exact HO_1.out) hg hat); replace HB := ak_ (hb); clear HO_7; clear ho hb hg hat; have q28 : (1 : Int) ≤ ((x0_1.length : Int) : Int) := of_decide_eq_true (by first | (with_reducible assumption) | assumption); obtain ⟨i028, hi028, _, hsz28, _⟩ := info_parts info77; have hroom28 : x0_1.length ≤ co14 := (Kd.V_reads' HO_0.out).2.1; have hC28 : Kd.F k77 _ _ (some ad185) x0_1.length x0_1 := (Kd.V_at (base := w.heap.size) HO_0.out).2.2; have hcut28 := cut_from (P := Tryz.prog) 22 77 .i64 Tryz.underlying22 hi028 2 hsz28 (some ad185) x0_1.length co14 1 (by omega) q28; have hr28 := Kd.F_cut (m := (1 : Int).toNat) (c := co14) hC28 (by omega) hroom28; obtain ⟨A28, hA28⟩ : ∃ z_, z_ = (if co14 = (1 : Int).toNat then (some ad185) else ((some ad185) : Option Addr).map (·.add ((1 : Int).toNat * 2))) := ⟨_, rfl⟩; obtain ⟨c28, hc28⟩ : ∃ z_, z_ = co14 - (1 : Int).toNat := ⟨_, rfl⟩; have hy28 : y189.length = x0_1.length - (1 : Int).toNat := (by rw [Ny189.out, List.length_drop] <;> omega); rw [show (x0_1).drop (1 : Int).toNat = y189 from Ny189.out.symm] at hr28; replace hr28 : Kd.F k77 _ _ A28 y189.length y189 := (by rw [hA28]; exact hr28); rw [← hy28, ← hA28, ← hc28] at hcut28; have HO193 := ak_ (show Kd.V k77 77 _ w.heap.size _ (.slice A28 y189.length c28) y189 from Kd.V_mk (by rw [hy28, hc28]; exact Nat.sub_le_sub_right hroom28 _) hr28); have HC193 := ak_ (show y189.length ≤ c28 from by rw [hy28, hc28]; exact Nat.sub_le_sub_right hroom28 _); clear hr28 hC28 hroom28 hi028 hsz28 hc28; have KY28 := ak_ hy28; have KA28 := ak_ hA28; clear hy28 hA28; replace q28 := eq_true q28))))
           (try (go_step3; go_wp2_with (first | ((with_reducible refine gate_builtin (b := .append) (xs := #[.tmp 43, .tmp 49]) rfl ?_); (try (refine gate_guard (by rfl) ?_; dsimp only)); at_builtin; refine Kd.R_append k60 (w0 := w) w.heap.size rfl (.tmp 43) (.tmp 49) 43 60 (.agg #[(.string ⟨#[]⟩), (.bool false), (.string ⟨#[]⟩)]) 40 rfl Tryz.underlying43 info60 rfl (by decide) (by omega) u7 x7_1 (⟨(rd_T77 x0_1 0).f0, false, (⟨#[]⟩ : ByteArray)⟩ : S60) [.string ((rd_T77 x0_1 0).f0), .bool false, .string (⟨#[]⟩ : ByteArray)] (fun k_ => (w.heap.size ≤ k_)) (fun _ => False) rfl rfl ?aP (fun _ hk => hk.elim) ?aF ?aO ?aB ?aS ?aL ?_; (case aP => exact k60_mkM _ _ _ (⟨(rd_T77 x0_1 0).f0, false, (⟨#[]⟩ : ByteArray)⟩ : S60)); (case aB => exact bel_); (case aF => exact (fun k_ hk => (Nat.le_trans (below_size bel_) hk))); (case aO => exact (ra_ HO_7)); (case aS => exact (below_size bel_)); (case aL => have := LMc25.out; omega); intro v187 w27 ho hb hg hat; rw [← Ny186.out] at ho; have HO188 := ak_ (ho); replace HO_0 := ak_ (Kd.V_afterv (ok := (fun k_ => ((P0_ k_ ∨ P1_ k_) ∨ w.heap.size ≤ k_))) (by (with_reducible repeat (first | apply Kd.V_alloc | apply Kd.V_drewN | apply Kd.V_drew)); exact HO_0.out) hg hat); replace HO_1 := ak_ (Kd.V_afterv (ok := (fun k_ => ((P0_ k_ ∨ P1_ k_) ∨ w.heap.size ≤ k_))) (by (with_reducible repeat (first | apply Kd.V_alloc | apply Kd.V_drewN | apply Kd.V_drew)); exact HO_1.out) hg hat); replace HB := ak_ (hb); clear HO_7; clear ho hb hg hat; have q28 : (1 : Int) ≤ ((x0_1.length : Int) : Int) := of_decide_eq_true (by first | (with_reducible assumption) | assumption); obtain ⟨i028, hi028, _, hsz28, _⟩ := info_parts info77; have hroom28 : x0_1.length ≤ co14 := (Kd.V_reads' HO_0.out).2.1; have hC28 : Kd.F k77 _ _ (some ad185) x0_1.length x0_1 := (Kd.V_at (base := w.heap.size) HO_0.out).2.2; have hcut28 := cut_from (P := Tryz.prog) 22 77 .i64 Tryz.underlying22 hi028 2 hsz28 (some ad185) x0_1.length co14 1 (by omega) q28; have hr28 := Kd.F_cut (m := (1 : Int).toNat) (c := co14) hC28 (by omega) hroom28; obtain ⟨A28, hA28⟩ : ∃ z_, z_ = (if co14 = (1 : Int).toNat then (some ad185) else ((some ad185) : Option Addr).map (·.add ((1 : Int).toNat * 2))) := ⟨_, rfl⟩; obtain ⟨c28, hc28⟩ : ∃ z_, z_ = co14 - (1 : Int).toNat := ⟨_, rfl⟩; have hy28 : y189.length = x0_1.length - (1 : Int).toNat := (by rw [Ny189.out, List.length_drop] <;> omega); rw [show (x0_1).drop (1 : Int).toNat = y189 from Ny189.out.symm] at hr28; replace hr28 : Kd.F k77 _ _ A28 y189.length y189 := (by rw [hA28]; exact hr28); rw [← hy28, ← hA28, ← hc28] at hcut28; have HO193 := ak_ (show Kd.V k77 77 _ w.heap.size _ (.slice A28 y189.length c28) y189 from Kd.V_mk (by rw [hy28, hc28]; exact Nat.sub_le_sub_right hroom28 _) hr28); have HC193 := ak_ (show y189.length ≤ c28 from by rw [hy28, hc28]; exact Nat.sub_le_sub_right hroom28 _); clear hr28 hC28 hroom28 hi028 hsz28 hc28; have KY28 := ak_ hy28; have KA28 := ak_ hA28; clear hy28 hA28; replace q28 := eq_true q28))))
           go_roundg kj12
           case measure => have := HK1.out; have := HJ12.out; omega
           case rel => exact ⟨(y189), (x1_1), (y186), H', ⟨by have := HK1.out; have := HJ12.out; omega⟩, ⟨by (with_reducible repeat (first | apply Kd.V_alloc | apply Kd.V_drewN | apply Kd.V_drew)); exact HO193.out⟩, ⟨by (with_reducible repeat (first | apply Kd.V_alloc | apply Kd.V_drewN | apply Kd.V_drew)); exact HO_1.out⟩, ⟨ra_ HO188⟩, ⟨bel_⟩⟩
          rw [if_neg c26] at H
          exact absurd H (by simp)
         rw [if_neg c25] at H
         exact absurd H (by simp)
        rw [if_neg c24] at H
        exact absurd H (by simp)
       replace c23 := Bool.eq_false_iff.mpr c23
       subst c23
       have H1 : (if (x0_1.length : Int) > 0 then (if 0 < (x0_1.length : Int) then (if 0 < (x1_1.length : Int) then (item_Diff.j2 kj12 x0_1 x1_1 x7_1 ((((rd_T77 x0_1 0).f0).toList) == (((rd_T77 x1_1 0).f0).toList) && ((((rd_T77 x0_1 0).f1).toList) == (((rd_T77 x1_1 0).f1).toList)))) else (none)) else (none)) else (item_Diff.j2 kj12 x0_1 x1_1 x7_1 false)) = some (r1, r2) := by rw [if_neg (show ¬ (false = true) by decide)] at H; exact H
       clear H
       have H := H1
       clear H1
       have HC29 := ak_ H
       clear H
       go_upto_region 9 with (fail)
       go_cut [53] (fun v53 wc => ∃ (kq : Nat) (x53_28 : Bool), v53 = .bool x53_28 ∧ Aside0 (item_Diff.j2 kq x0_1 x1_1 x7_1 x53_28 = some (r1, r2)) ∧ Aside0 (kq ≤ kj12) ∧ Aside0 (Kd.V k77 77 wc w.heap.size (fun k_ => ((P0_ k_ ∨ P1_ k_) ∨ w.heap.size ≤ k_) ∧ some k_ ≠ (u7 : Value).ownBlock) (.slice Ao14 x0_1.length co14) x0_1) ∧ Aside0 (Kd.V k77 77 wc w.heap.size (fun k_ => ((P0_ k_ ∨ P1_ k_) ∨ w.heap.size ≤ k_) ∧ some k_ ≠ (u7 : Value).ownBlock) (.slice Ao15 x1_1.length co15) x1_1) ∧ Aside0 (Kd.R k60 60 wc w.heap.size (fun k_ => (w.heap.size ≤ k_)) u7 x7_1) ∧ Aside0 (Below w.heap.size w wc))
       case first =>
        have H := HC29.out
        clear HC29
        by_cases c30 : (x0_1.length : Int) > 0
        ·rw [if_pos c30] at H
         have c30b0 : decide (0 < (x0_1.length : Int)) = true := decide_eq_true c30
         have c30b1 : decide (0 < x0_1.length) = true := decide_eq_true (by omega)
         clear c30
         (first | rw [c30b0] | (simp only [i64_w, i32_w]; rw [c30b0]) | skip)
         by_cases c31 : 0 < (x0_1.length : Int)
         ·rw [if_pos c31] at H
          have c31b0 : decide (0 < (x0_1.length : Int)) = true := decide_eq_true c31
          have c31b1 : decide (0 < x0_1.length) = true := decide_eq_true (by omega)
          clear c31
          by_cases c32 : 0 < (x1_1.length : Int)
          ·rw [if_pos c32] at H
           have c32b0 : decide (0 < (x1_1.length : Int)) = true := decide_eq_true c32
           have c32b1 : decide (0 < x1_1.length) = true := decide_eq_true (by omega)
           clear c32
           have H' := ak_ H
           clear H
           try go_wp2
           replace HO_0 := ak_ (Kd.V_drew HO_0.out)
           replace HO_1 := ak_ (Kd.V_drew HO_1.out)
           replace HO_7 := ak_ (Kd.R_drew HO_7.out)
           replace HB := ak_ (below_drew1 HB.out)
           have p194 : 0 ≤ (0 : Int) := (by omega)
           have q194 : 0 < (x0_1.length : Int) := of_decide_eq_true (by first | (with_reducible assumption) | assumption)
           obtain ⟨ad194, e194, hx194_0, hx194_1⟩ := at_T77 (Kd.V_reads' HO_0.out).2.2 0 p194 q194
           cases e194
           have qi194 : (0 < x0_1.length) = True := eq_true (by omega)
           (try rw [show ((0 : Int)).toNat = 0 from rfl] at hx194_0)
           (try rw [show 0 * 2 = 0 from rfl] at hx194_0)
           (try rw [Addr.add_zero'] at hx194_0)
           (try rw [show ((0 : Int)).toNat = 0 from rfl] at hx194_1)
           (try rw [show 0 * 2 = 0 from rfl] at hx194_1)
           (try rw [Addr.add_zero'] at hx194_1)
           replace p194 := eq_true p194
           replace q194 := eq_true q194
           have p195 : 0 ≤ (0 : Int) := (by omega)
           have q195 : 0 < (x1_1.length : Int) := of_decide_eq_true (by first | (with_reducible assumption) | assumption)
           obtain ⟨ad195, e195, hx195_0, hx195_1⟩ := at_T77 (Kd.V_reads' HO_1.out).2.2 0 p195 q195
           cases e195
           have qi195 : (0 < x1_1.length) = True := eq_true (by omega)
           (try rw [show ((0 : Int)).toNat = 0 from rfl] at hx195_0)
           (try rw [show 0 * 2 = 0 from rfl] at hx195_0)
           (try rw [Addr.add_zero'] at hx195_0)
           (try rw [show ((0 : Int)).toNat = 0 from rfl] at hx195_1)
           (try rw [show 0 * 2 = 0 from rfl] at hx195_1)
           (try rw [Addr.add_zero'] at hx195_1)
           replace p195 := eq_true p195
           replace q195 := eq_true q195
           refine start_ (n := 13) (S := fun w' => w'.cell? ad194 = some (.string ((rd_T77 x0_1 0).f0)) ∧ w'.cell? ⟨ad194.block, ad194.off + 1, none⟩ = some (.string ((rd_T77 x0_1 0).f1)) ∧ w'.cell? ad195 = some (.string ((rd_T77 x1_1 0).f0)) ∧ w'.cell? ⟨ad195.block, ad195.off + 1, none⟩ = some (.string ((rd_T77 x1_1 0).f1))) (ds := []) #[false, false, false, false, false, false, false, false, false, false, false, false, false] (by kernel_rfl) rfl rfl ⟨hx194_0, hx194_1, hx195_0, hx195_1⟩ (fun hHeld => ?_); refine with_tabW item_Diff.tab9 item_Diff.bits9 (fun HT_ HW_ => ?_)
           generalize wc.drew = w33 at HO_0 HO_1 HO_7 HB hx194_0 hx194_1 hx195_0 hx195_1 hHeld ⊢
           refine pu_ 0 54 ?_
           refine pu_ 1 55 ?_
           refine pu_ 2 56 ?_
           refine pu_ 3 57 ?_
           refine pu_ 4 58 ?_
           refine pu_ 5 59 ?_
           refine pu_ 7 61 ?_
           refine pu_ 8 62 ?_
           refine tk4_ 6 60 ?_
           refine tk4_ 9 63 ?_
           refine pu_ 10 64 ?_
           refine pu_ 11 65 ?_
           refine pu_ 12 53 ?_
           refine done_ (done_of HT_.out (by kernel_rfl)) ?_
           try go_wp2
           go_meet
           case rel => exact ⟨_, (((((rd_T77 x0_1 0).f0).toList) == (((rd_T77 x1_1 0).f0).toList) && ((((rd_T77 x0_1 0).f1).toList) == (((rd_T77 x1_1 0).f1).toList)))), (by first | rfl | (simp; done) | (simp [*]; done)), H', ⟨by have := HK1.out; have := HJ12.out; first | omega | exact Nat.le_refl _⟩, ⟨by (with_reducible repeat (first | apply Kd.V_alloc | apply Kd.V_drewN | apply Kd.V_drew)); exact HO_0.out⟩, ⟨by (with_reducible repeat (first | apply Kd.V_alloc | apply Kd.V_drewN | apply Kd.V_drew)); exact HO_1.out⟩, ⟨ra_ HO_7⟩, ⟨bel_⟩⟩
          rw [if_neg c32] at H
          exact absurd H (by simp)
         rw [if_neg c31] at H
         exact absurd H (by simp)
        rw [if_neg c30] at H
        have c30b0 : decide (0 < (x0_1.length : Int)) = false := decide_eq_false c30
        have c30b1 : decide (0 < x0_1.length) = false := decide_eq_false (by omega)
        clear c30
        (first | rw [c30b0] | (simp only [i64_w, i32_w]; rw [c30b0]) | skip)
        have H' := ak_ H
        clear H
        try go_wp2
        replace HO_0 := ak_ (Kd.V_drew HO_0.out)
        replace HO_1 := ak_ (Kd.V_drew HO_1.out)
        replace HO_7 := ak_ (Kd.R_drew HO_7.out)
        replace HB := ak_ (below_drew1 HB.out)
        refine start_ (n := 13) (S := fun w' => True) (ds := []) #[false, false, false, false, false, false, false, false, false, false, false, false, false] (by kernel_rfl) rfl rfl trivial (fun hHeld => ?_); refine with_tabW item_Diff.tab9 item_Diff.bits9 (fun HT_ HW_ => ?_)
        generalize wc.drew = w34 at HO_0 HO_1 HO_7 HB hHeld ⊢
        refine pu_ 0 54 ?_
        refine pu_ 1 55 ?_
        refine pu_ 2 56 ?_
        refine pu_ 3 57 ?_
        refine un_ 4 58 ?_
        refine un_ 5 59 ?_
        refine un_ 6 60 ?_
        refine un_ 7 61 ?_
        refine un_ 8 62 ?_
        refine un_ 9 63 ?_
        refine un_ 10 64 ?_
        refine pu_ 11 65 ?_
        refine pu_ 12 53 ?_
        refine done_ (done_of HT_.out (by kernel_rfl)) ?_
        try go_wp2
        go_meet
        case rel => exact ⟨_, (false), (by first | rfl | (simp; done) | (simp [*]; done)), H', ⟨by have := HK1.out; have := HJ12.out; first | omega | exact Nat.le_refl _⟩, ⟨by (with_reducible repeat (first | apply Kd.V_alloc | apply Kd.V_drewN | apply Kd.V_drew)); exact HO_0.out⟩, ⟨by (with_reducible repeat (first | apply Kd.V_alloc | apply Kd.V_drewN | apply Kd.V_drew)); exact HO_1.out⟩, ⟨ra_ HO_7⟩, ⟨bel_⟩⟩
       case rest =>
        clear HC29
        try clear c1
        try clear p1
        try clear q1
        try clear hx1
        try clear qi1
        try clear c2
        try clear p2
        try clear q2
        try clear c3
        try clear c4
        try clear c6
        try clear c6b0
        try clear c6b1
        try clear p6
        try clear c12
        try clear c12b0
        try clear c16
        try clear c16b0
        try clear c16b1
        try clear c16b2
        try clear c18
        try clear c18b0
        try clear c18b1
        try clear p18
        try clear q18
        try clear hx18
        try clear qi18
        try clear c19
        try clear c19b0
        try clear c19b1
        try clear p19
        try clear q19
        try clear hx19
        try clear qi19
        try clear c20
        try clear c20b0
        try clear c20b1
        try clear c23
        try clear c24
        try clear c24b0
        try clear c24b1
        try clear c25
        try clear c26
        try clear c26b0
        try clear c26b1
        try clear c28
        try clear q28
        try clear c30
        try clear c30b0
        try clear c30b1
        try clear c31
        try clear c31b0
        try clear c31b1
        try clear c32
        try clear c32b0
        try clear c32b1
        try clear hx183_0
        try clear hx183_1
        try clear hx184_0
        try clear hx184_1
        try clear hx185_0
        try clear hx185_1
        try clear hx194_0
        try clear hx194_1
        try clear hx195_0
        try clear hx195_1
        try clear p1
        try clear p18
        try clear p183
        try clear p184
        try clear p185
        try clear p194
        try clear p195
        try clear p2
        try clear p6
        try clear q1
        try clear q18
        try clear q183
        try clear q184
        try clear q185
        try clear q194
        try clear q195
        try clear q28
        obtain ⟨kq, x53_28, rfl, HA, HJ28, HO_0, HO_1, HO_7, HB⟩ := hcut
        cases kq with
        | zero => exact absurd HA.out (by simp [item_Diff.j2])
        | succ kj28 =>
         have H := HA.out
         clear HA
         simp only [item_Diff.j2] at H
         by_cases c35 : x53_28 = true
         ·subst c35
          have H1 : (if 1 ≤ (x0_1.length : Int) then (if 1 ≤ (x1_1.length : Int) then (item_Diff.l0 kj28 (x0_1.drop 1) (x1_1.drop 1) x7_1) else (none)) else (none)) = some (r1, r2) := by rw [if_pos rfl] at H; exact H
          clear H
          have H := H1
          clear H1
          by_cases c36 : 1 ≤ (x0_1.length : Int)
          ·rw [if_pos c36] at H
           have c36b0 := eq_true c36
           have c36b1 : decide (1 ≤ (x0_1.length : Int)) = true := decide_eq_true c36
           clear c36
           obtain ⟨y196, hy196⟩ : ∃ y_ : List (S77), y_ = (x0_1.drop 1) := ⟨_, rfl⟩
           replace H : (if 1 ≤ (x1_1.length : Int) then (item_Diff.l0 kj28 y196 (x1_1.drop 1) x7_1) else (none)) = some (r1, r2) := by first | (rw [hy196]; with_reducible exact H) | (have H2_ := (Option.bind_some _ _).symm.trans H; rw [hy196]; with_reducible exact H2_) | (have H2_ := (Option.bind_some _ _).symm.trans H; with_reducible exact H2_) | with_reducible exact H | (rw [hy196]; exact H) | exact H
           have Ny196 := ak_ hy196
           clear hy196
           by_cases c37 : 1 ≤ (x1_1.length : Int)
           ·rw [if_pos c37] at H
            have c37b0 := eq_true c37
            have c37b1 : decide (1 ≤ (x1_1.length : Int)) = true := decide_eq_true c37
            clear c37
            obtain ⟨y201, hy201⟩ : ∃ y_ : List (S77), y_ = (x1_1.drop 1) := ⟨_, rfl⟩
            replace H : (item_Diff.l0 kj28 y196 y201 x7_1) = some (r1, r2) := by first | (rw [hy201]; with_reducible exact H) | (have H2_ := (Option.bind_some _ _).symm.trans H; rw [hy201]; with_reducible exact H2_) | (have H2_ := (Option.bind_some _ _).symm.trans H; with_reducible exact H2_) | with_reducible exact H | (rw [hy201]; exact H) | exact H
            have Ny201 := ak_ hy201
            clear hy201
            have H' := ak_ H
            clear H
            try go_wp2
            replace HO_0 := ak_ (Kd.V_drew HO_0.out)
            replace HO_1 := ak_ (Kd.V_drew HO_1.out)
            replace HO_7 := ak_ (Kd.R_drew HO_7.out)
            replace HB := ak_ (below_drew1 HB.out)
            have q39 : (1 : Int) ≤ ((x0_1.length : Int) : Int) := of_decide_eq_true (by first | (with_reducible assumption) | assumption)
            obtain ⟨i039, hi039, _, hsz39, _⟩ := info_parts info77
            have hroom39 : x0_1.length ≤ co14 := (Kd.V_reads' HO_0.out).2.1
            have hC39 : Kd.F k77 _ _ Ao14 x0_1.length x0_1 := (Kd.V_at (base := w.heap.size) HO_0.out).2.2
            have hcut39 := cut_from (P := Tryz.prog) 22 77 .i64 Tryz.underlying22 hi039 2 hsz39 Ao14 x0_1.length co14 1 (by omega) q39
            have hr39 := Kd.F_cut (m := (1 : Int).toNat) (c := co14) hC39 (by omega) hroom39
            obtain ⟨A39, hA39⟩ : ∃ z_, z_ = (if co14 = (1 : Int).toNat then Ao14 else (Ao14 : Option Addr).map (·.add ((1 : Int).toNat * 2))) := ⟨_, rfl⟩
            obtain ⟨c39, hc39⟩ : ∃ z_, z_ = co14 - (1 : Int).toNat := ⟨_, rfl⟩
            have hy39 : y196.length = x0_1.length - (1 : Int).toNat := (by rw [Ny196.out, List.length_drop] <;> omega)
            rw [show (x0_1).drop (1 : Int).toNat = y196 from Ny196.out.symm] at hr39
            replace hr39 : Kd.F k77 _ _ A39 y196.length y196 := (by rw [hA39]; exact hr39)
            rw [← hy39, ← hA39, ← hc39] at hcut39
            have HO200 := ak_ (show Kd.V k77 77 _ w.heap.size _ (.slice A39 y196.length c39) y196 from Kd.V_mk (by rw [hy39, hc39]; exact Nat.sub_le_sub_right hroom39 _) hr39)
            have HC200 := ak_ (show y196.length ≤ c39 from by rw [hy39, hc39]; exact Nat.sub_le_sub_right hroom39 _)
            clear hr39 hC39 hroom39 hi039 hsz39 hc39
            have KY39 := ak_ hy39
            have KA39 := ak_ hA39
            clear hy39 hA39
            replace q39 := eq_true q39
            have q40 : (1 : Int) ≤ ((x1_1.length : Int) : Int) := of_decide_eq_true (by first | (with_reducible assumption) | assumption)
            obtain ⟨i040, hi040, _, hsz40, _⟩ := info_parts info77
            have hroom40 : x1_1.length ≤ co15 := (Kd.V_reads' HO_1.out).2.1
            have hC40 : Kd.F k77 _ _ Ao15 x1_1.length x1_1 := (Kd.V_at (base := w.heap.size) HO_1.out).2.2
            have hcut40 := cut_from (P := Tryz.prog) 22 77 .i64 Tryz.underlying22 hi040 2 hsz40 Ao15 x1_1.length co15 1 (by omega) q40
            have hr40 := Kd.F_cut (m := (1 : Int).toNat) (c := co15) hC40 (by omega) hroom40
            obtain ⟨A40, hA40⟩ : ∃ z_, z_ = (if co15 = (1 : Int).toNat then Ao15 else (Ao15 : Option Addr).map (·.add ((1 : Int).toNat * 2))) := ⟨_, rfl⟩
            obtain ⟨c40, hc40⟩ : ∃ z_, z_ = co15 - (1 : Int).toNat := ⟨_, rfl⟩
            have hy40 : y201.length = x1_1.length - (1 : Int).toNat := (by rw [Ny201.out, List.length_drop] <;> omega)
            rw [show (x1_1).drop (1 : Int).toNat = y201 from Ny201.out.symm] at hr40
            replace hr40 : Kd.F k77 _ _ A40 y201.length y201 := (by rw [hA40]; exact hr40)
            rw [← hy40, ← hA40, ← hc40] at hcut40
            have HO205 := ak_ (show Kd.V k77 77 _ w.heap.size _ (.slice A40 y201.length c40) y201 from Kd.V_mk (by rw [hy40, hc40]; exact Nat.sub_le_sub_right hroom40 _) hr40)
            have HC205 := ak_ (show y201.length ≤ c40 from by rw [hy40, hc40]; exact Nat.sub_le_sub_right hroom40 _)
            clear hr40 hC40 hroom40 hi040 hsz40 hc40
            have KY40 := ak_ hy40
            have KA40 := ak_ hA40
            clear hy40 hA40
            replace q40 := eq_true q40
            refine start_ (n := 6) (S := fun w' => True) (ds := []) #[false, false, false, false, false, false] (by kernel_rfl) rfl rfl trivial (fun hHeld => ?_)
            generalize wc.drew = w38 at HO_0 HO_1 HO_7 HB HO200 HO205 hHeld ⊢
            refine pu_ 0 66 ?_
            refine pu_ 1 67 ?_
            refine pu_ 2 68 ?_
            refine pu_ 3 69 ?_
            refine pu_ 4 0 ?_
            refine pu_ 5 1 ?_
            refine done_ (by kernel_rfl) ?_
            try go_wp2
            go_roundg kj28
            case measure => have := HK1.out; have := HJ12.out; have := HJ28.out; omega
            case rel => exact ⟨(y196), (y201), (x7_1), H', ⟨by have := HK1.out; have := HJ12.out; have := HJ28.out; omega⟩, ⟨by (with_reducible repeat (first | apply Kd.V_alloc | apply Kd.V_drewN | apply Kd.V_drew)); exact HO200.out⟩, ⟨by (with_reducible repeat (first | apply Kd.V_alloc | apply Kd.V_drewN | apply Kd.V_drew)); exact HO205.out⟩, ⟨ra_ HO_7⟩, ⟨bel_⟩⟩
           rw [if_neg c37] at H
           exact absurd H (by simp)
          rw [if_neg c36] at H
          exact absurd H (by simp)
         replace c35 := Bool.eq_false_iff.mpr c35
         subst c35
         have H1 : (if (x0_1.length : Int) > 0 then (if 0 < (x0_1.length : Int) then (if 0 < (x1_1.length : Int) then (if ((rd_T77 x0_1 0).f0).toList = ((rd_T77 x1_1 0).f0).toList then (if 1 ≤ (x0_1.length : Int) then (if x7_1.length < 3518437208883 then (if 1 ≤ (x1_1.length : Int) then (item_Diff.l0 kj28 (x0_1.drop 1) (x1_1.drop 1) (x7_1 ++ [(⟨(rd_T77 x1_1 0).f0, true, (rd_T77 x1_1 0).f1⟩ : S60)])) else (none)) else (none)) else (none)) else (if x7_1.length < 3518437208883 then (if 1 ≤ (x1_1.length : Int) then (item_Diff.l0 kj28 x0_1 (x1_1.drop 1) (x7_1 ++ [(⟨(rd_T77 x1_1 0).f0, true, (rd_T77 x1_1 0).f1⟩ : S60)])) else (none)) else (none))) else (none)) else (none)) else (if 0 < (x1_1.length : Int) then (if x7_1.length < 3518437208883 then (if 1 ≤ (x1_1.length : Int) then (item_Diff.l0 kj28 x0_1 (x1_1.drop 1) (x7_1 ++ [(⟨(rd_T77 x1_1 0).f0, true, (rd_T77 x1_1 0).f1⟩ : S60)])) else (none)) else (none)) else (none))) = some (r1, r2) := by rw [if_neg (show ¬ (false = true) by decide)] at H; exact H
         clear H
         have H := H1
         clear H1
         by_cases c41 : (x0_1.length : Int) > 0
         ·rw [if_pos c41] at H
          have c41b0 : decide (0 < (x0_1.length : Int)) = true := decide_eq_true c41
          have c41b1 : decide (0 < x0_1.length) = true := decide_eq_true (by omega)
          clear c41
          by_cases c42 : 0 < (x0_1.length : Int)
          ·rw [if_pos c42] at H
           have c42b0 : decide (0 < (x0_1.length : Int)) = true := decide_eq_true c42
           have c42b1 : decide (0 < x0_1.length) = true := decide_eq_true (by omega)
           clear c42
           by_cases c43 : 0 < (x1_1.length : Int)
           ·rw [if_pos c43] at H
            have c43b0 : decide (0 < (x1_1.length : Int)) = true := decide_eq_true c43
            have c43b1 : decide (0 < x1_1.length) = true := decide_eq_true (by omega)
            clear c43
            by_cases c44 : ((rd_T77 x0_1 0).f0).toList = ((rd_T77 x1_1 0).f0).toList
            ·rw [if_pos c44] at H
             have c44b0 : (((rd_T77 x0_1 0).f0).toList == ((rd_T77 x1_1 0).f0).toList) = true := beq_iff_eq.mpr c44
             have c44b1 : (((rd_T77 x0_1 0).f0).toList != ((rd_T77 x1_1 0).f0).toList) = false := bne_eq_false_iff_eq.mpr c44
             clear c44
             by_cases c45 : 1 ≤ (x0_1.length : Int)
             ·rw [if_pos c45] at H
              have c45b0 := eq_true c45
              have c45b1 : decide (1 ≤ (x0_1.length : Int)) = true := decide_eq_true c45
              clear c45
              obtain ⟨y208, hy208⟩ : ∃ y_ : List (S77), y_ = (x0_1.drop 1) := ⟨_, rfl⟩
              replace H : (if x7_1.length < 3518437208883 then (if 1 ≤ (x1_1.length : Int) then (item_Diff.l0 kj28 y208 (x1_1.drop 1) (x7_1 ++ [(⟨(rd_T77 x1_1 0).f0, true, (rd_T77 x1_1 0).f1⟩ : S60)])) else (none)) else (none)) = some (r1, r2) := by first | (rw [hy208]; with_reducible exact H) | (have H2_ := (Option.bind_some _ _).symm.trans H; rw [hy208]; with_reducible exact H2_) | (have H2_ := (Option.bind_some _ _).symm.trans H; with_reducible exact H2_) | with_reducible exact H | (rw [hy208]; exact H) | exact H
              have Ny208 := ak_ hy208
              clear hy208
              by_cases c46 : x7_1.length < 3518437208883
              ·rw [if_pos c46] at H
               have LMc46 := ak_ c46
               clear c46
               obtain ⟨y215, hy215⟩ : ∃ y_ : List (S60), y_ = (x7_1 ++ [(⟨(rd_T77 x1_1 0).f0, true, (rd_T77 x1_1 0).f1⟩ : S60)]) := ⟨_, rfl⟩
               replace H : (if 1 ≤ (x1_1.length : Int) then (item_Diff.l0 kj28 y208 (x1_1.drop 1) y215) else (none)) = some (r1, r2) := by first | (rw [hy215]; with_reducible exact H) | (have H2_ := (Option.bind_some _ _).symm.trans H; rw [hy215]; with_reducible exact H2_) | (have H2_ := (Option.bind_some _ _).symm.trans H; with_reducible exact H2_) | with_reducible exact H | (rw [hy215]; exact H) | exact H
               have Ny215 := ak_ hy215
               clear hy215
               by_cases c47 : 1 ≤ (x1_1.length : Int)
               ·rw [if_pos c47] at H
                have c47b0 := eq_true c47
                have c47b1 : decide (1 ≤ (x1_1.length : Int)) = true := decide_eq_true c47
                clear c47
                obtain ⟨y218, hy218⟩ : ∃ y_ : List (S77), y_ = (x1_1.drop 1) := ⟨_, rfl⟩
                replace H : (item_Diff.l0 kj28 y208 y218 y215) = some (r1, r2) := by first | (rw [hy218]; with_reducible exact H) | (have H2_ := (Option.bind_some _ _).symm.trans H; rw [hy218]; with_reducible exact H2_) | (have H2_ := (Option.bind_some _ _).symm.trans H; with_reducible exact H2_) | with_reducible exact H | (rw [hy218]; exact H) | exact H
                have Ny218 := ak_ hy218
                clear hy218
                have H' := ak_ H
                clear H
                try go_wp2
                replace HO_0 := ak_ (Kd.V_drew HO_0.out)
                replace HO_1 := ak_ (Kd.V_drew HO_1.out)
                replace HO_7 := ak_ (Kd.R_drew HO_7.out)
                replace HB := ak_ (below_drew1 HB.out)
                have p206 : 0 ≤ (0 : Int) := (by omega)
                have q206 : 0 < (x0_1.length : Int) := of_decide_eq_true (by first | (with_reducible assumption) | assumption)
                obtain ⟨ad206, e206, hx206_0, hx206_1⟩ := at_T77 (Kd.V_reads' HO_0.out).2.2 0 p206 q206
                cases e206
                have qi206 : (0 < x0_1.length) = True := eq_true (by omega)
                (try rw [show ((0 : Int)).toNat = 0 from rfl] at hx206_0)
                (try rw [show 0 * 2 = 0 from rfl] at hx206_0)
                (try rw [Addr.add_zero'] at hx206_0)
                (try rw [show ((0 : Int)).toNat = 0 from rfl] at hx206_1)
                (try rw [show 0 * 2 = 0 from rfl] at hx206_1)
                (try rw [Addr.add_zero'] at hx206_1)
                replace p206 := eq_true p206
                replace q206 := eq_true q206
                have p207 : 0 ≤ (0 : Int) := (by omega)
                have q207 : 0 < (x1_1.length : Int) := of_decide_eq_true (by first | (with_reducible assumption) | assumption)
                obtain ⟨ad207, e207, hx207_0, hx207_1⟩ := at_T77 (Kd.V_reads' HO_1.out).2.2 0 p207 q207
                cases e207
                have qi207 : (0 < x1_1.length) = True := eq_true (by omega)
                (try rw [show ((0 : Int)).toNat = 0 from rfl] at hx207_0)
                (try rw [show 0 * 2 = 0 from rfl] at hx207_0)
                (try rw [Addr.add_zero'] at hx207_0)
                (try rw [show ((0 : Int)).toNat = 0 from rfl] at hx207_1)
                (try rw [show 0 * 2 = 0 from rfl] at hx207_1)
                (try rw [Addr.add_zero'] at hx207_1)
                replace p207 := eq_true p207
                replace q207 := eq_true q207
                refine start_ (n := 15) (S := fun w' => w'.cell? ad206 = some (.string ((rd_T77 x0_1 0).f0)) ∧ w'.cell? ⟨ad206.block, ad206.off + 1, none⟩ = some (.string ((rd_T77 x0_1 0).f1)) ∧ w'.cell? ad207 = some (.string ((rd_T77 x1_1 0).f0)) ∧ w'.cell? ⟨ad207.block, ad207.off + 1, none⟩ = some (.string ((rd_T77 x1_1 0).f1))) (ds := []) #[false, false, false, false, false, false, false, false, false, false, false, false, false, false, false] (by kernel_rfl) rfl rfl ⟨hx206_0, hx206_1, hx207_0, hx207_1⟩ (fun hHeld => ?_); refine with_tabW item_Diff.tab11 item_Diff.bits11 (fun HT_ HW_ => ?_)
                generalize wc.drew = w48 at HO_0 HO_1 HO_7 HB hx206_0 hx206_1 hx207_0 hx207_1 hHeld ⊢
                refine pu_ 0 71 ?_
                refine pu_ 1 72 ?_
                refine pu_ 2 73 ?_
                refine pu_ 3 74 ?_
                refine pu_ 4 75 ?_
                refine pu_ 5 76 ?_
                refine pu_ 6 77 ?_
                refine pu_ 8 79 ?_
                refine pu_ 9 80 ?_
                refine pu_ 10 81 ?_
                refine tk4_ 7 78 ?_
                refine tk4_ 11 82 ?_
                refine pu_ 12 83 ?_
                refine pu_ 13 84 ?_
                refine pu_ 14 70 ?_
                refine done_ (done_of HT_.out (by kernel_rfl)) ?_
                have q49 : (1 : Int) ≤ ((x0_1.length : Int) : Int) := of_decide_eq_true (by first | (with_reducible assumption) | assumption)
                obtain ⟨i049, hi049, _, hsz49, _⟩ := info_parts info77
                have hroom49 : x0_1.length ≤ co14 := (Kd.V_reads' HO_0.out).2.1
                have hC49 : Kd.F k77 _ _ (some ad206) x0_1.length x0_1 := (Kd.V_at (base := w.heap.size) HO_0.out).2.2
                have hcut49 := cut_from (P := Tryz.prog) 22 77 .i64 Tryz.underlying22 hi049 2 hsz49 (some ad206) x0_1.length co14 1 (by omega) q49
                have hr49 := Kd.F_cut (m := (1 : Int).toNat) (c := co14) hC49 (by omega) hroom49
                obtain ⟨A49, hA49⟩ : ∃ z_, z_ = (if co14 = (1 : Int).toNat then (some ad206) else ((some ad206) : Option Addr).map (·.add ((1 : Int).toNat * 2))) := ⟨_, rfl⟩
                obtain ⟨c49, hc49⟩ : ∃ z_, z_ = co14 - (1 : Int).toNat := ⟨_, rfl⟩
                have hy49 : y208.length = x0_1.length - (1 : Int).toNat := (by rw [Ny208.out, List.length_drop] <;> omega)
                rw [show (x0_1).drop (1 : Int).toNat = y208 from Ny208.out.symm] at hr49
                replace hr49 : Kd.F k77 _ _ A49 y208.length y208 := (by rw [hA49]; exact hr49)
                rw [← hy49, ← hA49, ← hc49] at hcut49
                have HO212 := ak_ (show Kd.V k77 77 _ w.heap.size _ (.slice A49 y208.length c49) y208 from Kd.V_mk (by rw [hy49, hc49]; exact Nat.sub_le_sub_right hroom49 _) hr49)
                have HC212 := ak_ (show y208.length ≤ c49 from by rw [hy49, hc49]; exact Nat.sub_le_sub_right hroom49 _)
                clear hr49 hC49 hroom49 hi049 hsz49 hc49
                have KY49 := ak_ hy49
                have KA49 := ak_ hA49
                clear hy49 hA49
                replace q49 := eq_true q49
                try go_wp2
                replace HO_0 := ak_ (Kd.V_drew HO_0.out)
                replace HO_1 := ak_ (Kd.V_drew HO_1.out)
                replace HO_7 := ak_ (Kd.R_drew HO_7.out)
                replace HO212 := ak_ (Kd.V_drew HO212.out)
                replace HB := ak_ (below_drew1 HB.out)
                have p213 : 0 ≤ (0 : Int) := (by omega)
                have q213 : 0 < (x1_1.length : Int) := of_decide_eq_true (by first | (with_reducible assumption) | assumption)
                obtain ⟨ad213, e213, hx213_0, hx213_1⟩ := at_T77 (Kd.V_reads' HO_1.out).2.2 0 p213 q213
                obtain rfl : ad207 = ad213 := (by injection e213)
                have qi213 : (0 < x1_1.length) = True := eq_true (by omega)
                (try rw [show ((0 : Int)).toNat = 0 from rfl] at hx213_0)
                (try rw [show 0 * 2 = 0 from rfl] at hx213_0)
                (try rw [Addr.add_zero'] at hx213_0)
                (try rw [show ((0 : Int)).toNat = 0 from rfl] at hx213_1)
                (try rw [show 0 * 2 = 0 from rfl] at hx213_1)
                (try rw [Addr.add_zero'] at hx213_1)
                replace p213 := eq_true p213
                replace q213 := eq_true q213
                have p214 : 0 ≤ (0 : Int) := (by omega)
                have q214 : 0 < (x1_1.length : Int) := of_decide_eq_true (by first | (with_reducible assumption) | assumption)
                obtain ⟨ad214, e214, hx214_0, hx214_1⟩ := at_T77 (Kd.V_reads' HO_1.out).2.2 0 p214 q214
                obtain rfl : ad207 = ad214 := (by injection e214)
                have qi214 : (0 < x1_1.length) = True := eq_true (by omega)
                (try rw [show ((0 : Int)).toNat = 0 from rfl] at hx214_0)
                (try rw [show 0 * 2 = 0 from rfl] at hx214_0)
                (try rw [Addr.add_zero'] at hx214_0)
                (try rw [show ((0 : Int)).toNat = 0 from rfl] at hx214_1)
                (try rw [show 0 * 2 = 0 from rfl] at hx214_1)
                (try rw [Addr.add_zero'] at hx214_1)
                replace p214 := eq_true p214
                replace q214 := eq_true q214
                refine start_ (n := 13) (S := fun w' => w'.cell? ad207 = some (.string ((rd_T77 x1_1 0).f0)) ∧ w'.cell? ⟨ad207.block, ad207.off + 1, none⟩ = some (.string ((rd_T77 x1_1 0).f1)) ∧ w'.cell? ad207 = some (.string ((rd_T77 x1_1 0).f0)) ∧ w'.cell? ⟨ad207.block, ad207.off + 1, none⟩ = some (.string ((rd_T77 x1_1 0).f1))) (ds := [10, 11]) #[false, false, false, false, false, false, false, false, false, false, false, false, false] (by kernel_rfl) rfl rfl ⟨hx213_0, hx213_1, hx214_0, hx214_1⟩ (fun hHeld => ?_); refine with_tabW item_Diff.tab13 item_Diff.bits13 (fun HT_ HW_ => ?_)
                generalize w48.drew = w50 at HO_0 HO_1 HO_7 HO212 HB hx213_0 hx213_1 hx214_0 hx214_1 hHeld ⊢
                refine pu_ 0 87 ?_
                refine pu_ 1 88 ?_
                refine pu_ 2 89 ?_
                refine pu_ 3 90 ?_
                refine pu_ 5 92 ?_
                refine pu_ 6 93 ?_
                refine pu_ 7 94 ?_
                refine tk4_ 4 91 ?_
                refine tk4_ 8 95 ?_
                refine pu_ 9 96 ?_
                refine last_ (i := 10) (N := some 97) #[true, true, true, true, true, true, true, true, true, true, true, false, false] rfl rfl (one_of HT_.out (by kernel_rfl)) (by decide) (fun K hK => ?_)
                refine value_ (w1 := ?_) (v := ?_) (by rfl) rfl ?_ ?_
                rotate_left 2
                ·go_simp
                 constructor
                 ·rfl
                 rfl
                refine hK.out _ _ ?_
                clear hK K
                refine nm_ 97 ?_
                refine last_ (i := 11) (N := some 98) #[true, true, true, true, true, true, true, true, true, true, true, true, false] rfl rfl (one_of HT_.out (by kernel_rfl)) (by decide) (fun K hK => ?_)
                refine Kd.R_append_step k60 (w0 := w) w.heap.size (by rfl) (.tmp 87) (.tmp 97) 43 60 (.agg #[(.string ⟨#[]⟩), (.bool false), (.string ⟨#[]⟩)]) 40 rfl Tryz.underlying43 info60 rfl (by decide) (by omega) u7 x7_1 (⟨(rd_T77 x1_1 0).f0, true, (rd_T77 x1_1 0).f1⟩ : S60) [.string ((rd_T77 x1_1 0).f0), .bool true, .string ((rd_T77 x1_1 0).f1)] (fun k_ => (w.heap.size ≤ k_)) (fun _ => False) rfl rfl ?aP (fun _ hk => hk.elim) ?aF ?aO ?aB ?aS ?aL ?_
                (case aP => exact k60_mkM _ _ _ (⟨(rd_T77 x1_1 0).f0, true, (rd_T77 x1_1 0).f1⟩ : S60))
                (case aB => exact bel_)
                (case aF => exact (fun k_ hk => (Nat.le_trans (below_size bel_) hk)))
                (case aO => exact (ra_ HO_7))
                (case aS => exact (below_size bel_))
                (case aL => have := LMc46.out; omega)
                intro v216 w51 ho hb hg hat
                rw [← Ny215.out] at ho
                have HO217 := ak_ (ho)
                replace HO_0 := ak_ (Kd.V_afterv (ok := (fun k_ => ((P0_ k_ ∨ P1_ k_) ∨ w.heap.size ≤ k_))) (by (with_reducible repeat (first | apply Kd.V_alloc | apply Kd.V_drewN | apply Kd.V_drew)); exact HO_0.out) hg hat)
                replace HO_1 := ak_ (Kd.V_afterv (ok := (fun k_ => ((P0_ k_ ∨ P1_ k_) ∨ w.heap.size ≤ k_))) (by (with_reducible repeat (first | apply Kd.V_alloc | apply Kd.V_drewN | apply Kd.V_drew)); exact HO_1.out) hg hat)
                replace HO212 := ak_ (Kd.V_afterv (ok := (fun k_ => ((P0_ k_ ∨ P1_ k_) ∨ w.heap.size ≤ k_))) (by (with_reducible repeat (first | apply Kd.V_alloc | apply Kd.V_drewN | apply Kd.V_drew)); exact HO212.out) hg hat)
                replace HB := ak_ (hb)
                clear HO_7
                clear ho hb hg hat
                refine hK.out _ _ ?_
                clear hK K
                refine nm_ 98 ?_
                refine pu_ 12 7 ?_
                refine done_ (done_of HT_.out (by kernel_rfl)) ?_
                have q52 : (1 : Int) ≤ ((x1_1.length : Int) : Int) := of_decide_eq_true (by first | (with_reducible assumption) | assumption)
                obtain ⟨i052, hi052, _, hsz52, _⟩ := info_parts info77
                have hroom52 : x1_1.length ≤ co15 := (Kd.V_reads' HO_1.out).2.1
                have hC52 : Kd.F k77 _ _ (some ad207) x1_1.length x1_1 := (Kd.V_at (base := w.heap.size) HO_1.out).2.2
                have hcut52 := cut_from (P := Tryz.prog) 22 77 .i64 Tryz.underlying22 hi052 2 hsz52 (some ad207) x1_1.length co15 1 (by omega) q52
                have hr52 := Kd.F_cut (m := (1 : Int).toNat) (c := co15) hC52 (by omega) hroom52
                obtain ⟨A52, hA52⟩ : ∃ z_, z_ = (if co15 = (1 : Int).toNat then (some ad207) else ((some ad207) : Option Addr).map (·.add ((1 : Int).toNat * 2))) := ⟨_, rfl⟩
                obtain ⟨c52, hc52⟩ : ∃ z_, z_ = co15 - (1 : Int).toNat := ⟨_, rfl⟩
                have hy52 : y218.length = x1_1.length - (1 : Int).toNat := (by rw [Ny218.out, List.length_drop] <;> omega)
                rw [show (x1_1).drop (1 : Int).toNat = y218 from Ny218.out.symm] at hr52
                replace hr52 : Kd.F k77 _ _ A52 y218.length y218 := (by rw [hA52]; exact hr52)
                rw [← hy52, ← hA52, ← hc52] at hcut52
                have HO222 := ak_ (show Kd.V k77 77 _ w.heap.size _ (.slice A52 y218.length c52) y218 from Kd.V_mk (by rw [hy52, hc52]; exact Nat.sub_le_sub_right hroom52 _) hr52)
                have HC222 := ak_ (show y218.length ≤ c52 from by rw [hy52, hc52]; exact Nat.sub_le_sub_right hroom52 _)
                clear hr52 hC52 hroom52 hi052 hsz52 hc52
                have KY52 := ak_ hy52
                have KA52 := ak_ hA52
                clear hy52 hA52
                replace q52 := eq_true q52
                try go_wp2
                go_roundg kj28
                case measure => have := HK1.out; have := HJ12.out; have := HJ28.out; omega
                case rel => exact ⟨(y208), (y218), (y215), H', ⟨by have := HK1.out; have := HJ12.out; have := HJ28.out; omega⟩, ⟨by (with_reducible repeat (first | apply Kd.V_alloc | apply Kd.V_drewN | apply Kd.V_drew)); exact HO212.out⟩, ⟨by (with_reducible repeat (first | apply Kd.V_alloc | apply Kd.V_drewN | apply Kd.V_drew)); exact HO222.out⟩, ⟨ra_ HO217⟩, ⟨bel_⟩⟩
               rw [if_neg c47] at H
               exact absurd H (by simp)
              rw [if_neg c46] at H
              exact absurd H (by simp)
             rw [if_neg c45] at H
             exact absurd H (by simp)
            rw [if_neg c44] at H
            have c44b0 : (((rd_T77 x0_1 0).f0).toList == ((rd_T77 x1_1 0).f0).toList) = false := beq_eq_false_iff_ne.mpr c44
            have c44b1 : (((rd_T77 x0_1 0).f0).toList != ((rd_T77 x1_1 0).f0).toList) = true := bne_iff_ne.mpr c44
            by_cases c53 : x7_1.length < 3518437208883
            ·rw [if_pos c53] at H
             have LMc53 := ak_ c53
             clear c53
             obtain ⟨y225, hy225⟩ : ∃ y_ : List (S60), y_ = (x7_1 ++ [(⟨(rd_T77 x1_1 0).f0, true, (rd_T77 x1_1 0).f1⟩ : S60)]) := ⟨_, rfl⟩
             replace H : (if 1 ≤ (x1_1.length : Int) then (item_Diff.l0 kj28 x0_1 (x1_1.drop 1) y225) else (none)) = some (r1, r2) := by first | (rw [hy225]; with_reducible exact H) | (have H2_ := (Option.bind_some _ _).symm.trans H; rw [hy225]; with_reducible exact H2_) | (have H2_ := (Option.bind_some _ _).symm.trans H; with_reducible exact H2_) | with_reducible exact H | (rw [hy225]; exact H) | exact H
             have Ny225 := ak_ hy225
             clear hy225
             by_cases c54 : 1 ≤ (x1_1.length : Int)
             ·rw [if_pos c54] at H
              have c54b0 := eq_true c54
              have c54b1 : decide (1 ≤ (x1_1.length : Int)) = true := decide_eq_true c54
              clear c54
              obtain ⟨y228, hy228⟩ : ∃ y_ : List (S77), y_ = (x1_1.drop 1) := ⟨_, rfl⟩
              replace H : (item_Diff.l0 kj28 x0_1 y228 y225) = some (r1, r2) := by first | (rw [hy228]; with_reducible exact H) | (have H2_ := (Option.bind_some _ _).symm.trans H; rw [hy228]; with_reducible exact H2_) | (have H2_ := (Option.bind_some _ _).symm.trans H; with_reducible exact H2_) | with_reducible exact H | (rw [hy228]; exact H) | exact H
              have Ny228 := ak_ hy228
              clear hy228
              have H' := ak_ H
              clear H
              try go_wp2
              replace HO_0 := ak_ (Kd.V_drew HO_0.out)
              replace HO_1 := ak_ (Kd.V_drew HO_1.out)
              replace HO_7 := ak_ (Kd.R_drew HO_7.out)
              replace HB := ak_ (below_drew1 HB.out)
              have p206 : 0 ≤ (0 : Int) := (by omega)
              have q206 : 0 < (x0_1.length : Int) := of_decide_eq_true (by first | (with_reducible assumption) | assumption)
              obtain ⟨ad206, e206, hx206_0, hx206_1⟩ := at_T77 (Kd.V_reads' HO_0.out).2.2 0 p206 q206
              cases e206
              have qi206 : (0 < x0_1.length) = True := eq_true (by omega)
              (try rw [show ((0 : Int)).toNat = 0 from rfl] at hx206_0)
              (try rw [show 0 * 2 = 0 from rfl] at hx206_0)
              (try rw [Addr.add_zero'] at hx206_0)
              (try rw [show ((0 : Int)).toNat = 0 from rfl] at hx206_1)
              (try rw [show 0 * 2 = 0 from rfl] at hx206_1)
              (try rw [Addr.add_zero'] at hx206_1)
              replace p206 := eq_true p206
              replace q206 := eq_true q206
              have p207 : 0 ≤ (0 : Int) := (by omega)
              have q207 : 0 < (x1_1.length : Int) := of_decide_eq_true (by first | (with_reducible assumption) | assumption)
              obtain ⟨ad207, e207, hx207_0, hx207_1⟩ := at_T77 (Kd.V_reads' HO_1.out).2.2 0 p207 q207
              cases e207
              have qi207 : (0 < x1_1.length) = True := eq_true (by omega)
              (try rw [show ((0 : Int)).toNat = 0 from rfl] at hx207_0)
              (try rw [show 0 * 2 = 0 from rfl] at hx207_0)
              (try rw [Addr.add_zero'] at hx207_0)
              (try rw [show ((0 : Int)).toNat = 0 from rfl] at hx207_1)
              (try rw [show 0 * 2 = 0 from rfl] at hx207_1)
              (try rw [Addr.add_zero'] at hx207_1)
              replace p207 := eq_true p207
              replace q207 := eq_true q207
              refine start_ (n := 15) (S := fun w' => w'.cell? ad206 = some (.string ((rd_T77 x0_1 0).f0)) ∧ w'.cell? ⟨ad206.block, ad206.off + 1, none⟩ = some (.string ((rd_T77 x0_1 0).f1)) ∧ w'.cell? ad207 = some (.string ((rd_T77 x1_1 0).f0)) ∧ w'.cell? ⟨ad207.block, ad207.off + 1, none⟩ = some (.string ((rd_T77 x1_1 0).f1))) (ds := []) #[false, false, false, false, false, false, false, false, false, false, false, false, false, false, false] (by kernel_rfl) rfl rfl ⟨hx206_0, hx206_1, hx207_0, hx207_1⟩ (fun hHeld => ?_); refine with_tabW item_Diff.tab11 item_Diff.bits11 (fun HT_ HW_ => ?_)
              generalize wc.drew = w55 at HO_0 HO_1 HO_7 HB hx206_0 hx206_1 hx207_0 hx207_1 hHeld ⊢
              refine pu_ 0 71 ?_
              refine pu_ 1 72 ?_
              refine pu_ 2 73 ?_
              refine pu_ 3 74 ?_
              refine pu_ 4 75 ?_
              refine pu_ 5 76 ?_
              refine pu_ 6 77 ?_
              refine pu_ 8 79 ?_
              refine pu_ 9 80 ?_
              refine pu_ 10 81 ?_
              refine tk4_ 7 78 ?_
              refine tk4_ 11 82 ?_
              refine pu_ 12 83 ?_
              refine pu_ 13 84 ?_
              refine pu_ 14 70 ?_
              refine done_ (done_of HT_.out (by kernel_rfl)) ?_
              try go_wp2
              replace HO_0 := ak_ (Kd.V_drew HO_0.out)
              replace HO_1 := ak_ (Kd.V_drew HO_1.out)
              replace HO_7 := ak_ (Kd.R_drew HO_7.out)
              replace HB := ak_ (below_drew1 HB.out)
              have p223 : 0 ≤ (0 : Int) := (by omega)
              have q223 : 0 < (x1_1.length : Int) := of_decide_eq_true (by first | (with_reducible assumption) | assumption)
              obtain ⟨ad223, e223, hx223_0, hx223_1⟩ := at_T77 (Kd.V_reads' HO_1.out).2.2 0 p223 q223
              obtain rfl : ad207 = ad223 := (by injection e223)
              have qi223 : (0 < x1_1.length) = True := eq_true (by omega)
              (try rw [show ((0 : Int)).toNat = 0 from rfl] at hx223_0)
              (try rw [show 0 * 2 = 0 from rfl] at hx223_0)
              (try rw [Addr.add_zero'] at hx223_0)
              (try rw [show ((0 : Int)).toNat = 0 from rfl] at hx223_1)
              (try rw [show 0 * 2 = 0 from rfl] at hx223_1)
              (try rw [Addr.add_zero'] at hx223_1)
              replace p223 := eq_true p223
              replace q223 := eq_true q223
              have p224 : 0 ≤ (0 : Int) := (by omega)
              have q224 : 0 < (x1_1.length : Int) := of_decide_eq_true (by first | (with_reducible assumption) | assumption)
              obtain ⟨ad224, e224, hx224_0, hx224_1⟩ := at_T77 (Kd.V_reads' HO_1.out).2.2 0 p224 q224
              obtain rfl : ad207 = ad224 := (by injection e224)
              have qi224 : (0 < x1_1.length) = True := eq_true (by omega)
              (try rw [show ((0 : Int)).toNat = 0 from rfl] at hx224_0)
              (try rw [show 0 * 2 = 0 from rfl] at hx224_0)
              (try rw [Addr.add_zero'] at hx224_0)
              (try rw [show ((0 : Int)).toNat = 0 from rfl] at hx224_1)
              (try rw [show 0 * 2 = 0 from rfl] at hx224_1)
              (try rw [Addr.add_zero'] at hx224_1)
              replace p224 := eq_true p224
              replace q224 := eq_true q224
              refine start_ (n := 13) (S := fun w' => w'.cell? ad207 = some (.string ((rd_T77 x1_1 0).f0)) ∧ w'.cell? ⟨ad207.block, ad207.off + 1, none⟩ = some (.string ((rd_T77 x1_1 0).f1)) ∧ w'.cell? ad207 = some (.string ((rd_T77 x1_1 0).f0)) ∧ w'.cell? ⟨ad207.block, ad207.off + 1, none⟩ = some (.string ((rd_T77 x1_1 0).f1))) (ds := [10, 11]) #[false, false, false, false, false, false, false, false, false, false, false, false, false] (by kernel_rfl) rfl rfl ⟨hx223_0, hx223_1, hx224_0, hx224_1⟩ (fun hHeld => ?_); refine with_tabW item_Diff.tab13 item_Diff.bits13 (fun HT_ HW_ => ?_)
              generalize w55.drew = w56 at HO_0 HO_1 HO_7 HB hx223_0 hx223_1 hx224_0 hx224_1 hHeld ⊢
              refine pu_ 0 87 ?_
              refine pu_ 1 88 ?_
              refine pu_ 2 89 ?_
              refine pu_ 3 90 ?_
              refine pu_ 5 92 ?_
              refine pu_ 6 93 ?_
              refine pu_ 7 94 ?_
              refine tk4_ 4 91 ?_
              refine tk4_ 8 95 ?_
              refine pu_ 9 96 ?_
              refine last_ (i := 10) (N := some 97) #[true, true, true, true, true, true, true, true, true, true, true, false, false] rfl rfl (one_of HT_.out (by kernel_rfl)) (by decide) (fun K hK => ?_)
              refine value_ (w1 := ?_) (v := ?_) (by rfl) rfl ?_ ?_
              rotate_left 2
              ·go_simp
               constructor
               ·rfl
               rfl
              refine hK.out _ _ ?_
              clear hK K
              refine nm_ 97 ?_
              refine last_ (i := 11) (N := some 98) #[true, true, true, true, true, true, true, true, true, true, true, true, false] rfl rfl (one_of HT_.out (by kernel_rfl)) (by decide) (fun K hK => ?_)
              refine Kd.R_append_step k60 (w0 := w) w.heap.size (by rfl) (.tmp 87) (.tmp 97) 43 60 (.agg #[(.string ⟨#[]⟩), (.bool false), (.string ⟨#[]⟩)]) 40 rfl Tryz.underlying43 info60 rfl (by decide) (by omega) u7 x7_1 (⟨(rd_T77 x1_1 0).f0, true, (rd_T77 x1_1 0).f1⟩ : S60) [.string ((rd_T77 x1_1 0).f0), .bool true, .string ((rd_T77 x1_1 0).f1)] (fun k_ => (w.heap.size ≤ k_)) (fun _ => False) rfl rfl ?aP (fun _ hk => hk.elim) ?aF ?aO ?aB ?aS ?aL ?_
              (case aP => exact k60_mkM _ _ _ (⟨(rd_T77 x1_1 0).f0, true, (rd_T77 x1_1 0).f1⟩ : S60))
              (case aB => exact bel_)
              (case aF => exact (fun k_ hk => (Nat.le_trans (below_size bel_) hk)))
              (case aO => exact (ra_ HO_7))
              (case aS => exact (below_size bel_))
              (case aL => have := LMc53.out; omega)
              intro v226 w57 ho hb hg hat
              rw [← Ny225.out] at ho
              have HO227 := ak_ (ho)
              replace HO_0 := ak_ (Kd.V_afterv (ok := (fun k_ => ((P0_ k_ ∨ P1_ k_) ∨ w.heap.size ≤ k_))) (by (with_reducible repeat (first | apply Kd.V_alloc | apply Kd.V_drewN | apply Kd.V_drew)); exact HO_0.out) hg hat)
              replace HO_1 := ak_ (Kd.V_afterv (ok := (fun k_ => ((P0_ k_ ∨ P1_ k_) ∨ w.heap.size ≤ k_))) (by (with_reducible repeat (first | apply Kd.V_alloc | apply Kd.V_drewN | apply Kd.V_drew)); exact HO_1.out) hg hat)
              replace HB := ak_ (hb)
              clear HO_7
              clear ho hb hg hat
              refine hK.out _ _ ?_
              clear hK K
              refine nm_ 98 ?_
              refine pu_ 12 7 ?_
              refine done_ (done_of HT_.out (by kernel_rfl)) ?_
              have q58 : (1 : Int) ≤ ((x1_1.length : Int) : Int) := of_decide_eq_true (by first | (with_reducible assumption) | assumption)
              obtain ⟨i058, hi058, _, hsz58, _⟩ := info_parts info77
              have hroom58 : x1_1.length ≤ co15 := (Kd.V_reads' HO_1.out).2.1
              have hC58 : Kd.F k77 _ _ (some ad207) x1_1.length x1_1 := (Kd.V_at (base := w.heap.size) HO_1.out).2.2
              have hcut58 := cut_from (P := Tryz.prog) 22 77 .i64 Tryz.underlying22 hi058 2 hsz58 (some ad207) x1_1.length co15 1 (by omega) q58
              have hr58 := Kd.F_cut (m := (1 : Int).toNat) (c := co15) hC58 (by omega) hroom58
              obtain ⟨A58, hA58⟩ : ∃ z_, z_ = (if co15 = (1 : Int).toNat then (some ad207) else ((some ad207) : Option Addr).map (·.add ((1 : Int).toNat * 2))) := ⟨_, rfl⟩
              obtain ⟨c58, hc58⟩ : ∃ z_, z_ = co15 - (1 : Int).toNat := ⟨_, rfl⟩
              have hy58 : y228.length = x1_1.length - (1 : Int).toNat := (by rw [Ny228.out, List.length_drop] <;> omega)
              rw [show (x1_1).drop (1 : Int).toNat = y228 from Ny228.out.symm] at hr58
              replace hr58 : Kd.F k77 _ _ A58 y228.length y228 := (by rw [hA58]; exact hr58)
              rw [← hy58, ← hA58, ← hc58] at hcut58
              have HO232 := ak_ (show Kd.V k77 77 _ w.heap.size _ (.slice A58 y228.length c58) y228 from Kd.V_mk (by rw [hy58, hc58]; exact Nat.sub_le_sub_right hroom58 _) hr58)
              have HC232 := ak_ (show y228.length ≤ c58 from by rw [hy58, hc58]; exact Nat.sub_le_sub_right hroom58 _)
              clear hr58 hC58 hroom58 hi058 hsz58 hc58
              have KY58 := ak_ hy58
              have KA58 := ak_ hA58
              clear hy58 hA58
              replace q58 := eq_true q58
              try go_wp2
              go_roundg kj28
              case measure => have := HK1.out; have := HJ12.out; have := HJ28.out; omega
              case rel => exact ⟨(x0_1), (y228), (y225), H', ⟨by have := HK1.out; have := HJ12.out; have := HJ28.out; omega⟩, ⟨by (with_reducible repeat (first | apply Kd.V_alloc | apply Kd.V_drewN | apply Kd.V_drew)); exact HO_0.out⟩, ⟨by (with_reducible repeat (first | apply Kd.V_alloc | apply Kd.V_drewN | apply Kd.V_drew)); exact HO232.out⟩, ⟨ra_ HO227⟩, ⟨bel_⟩⟩
             rw [if_neg c54] at H
             exact absurd H (by simp)
            rw [if_neg c53] at H
            exact absurd H (by simp)
           rw [if_neg c43] at H
           exact absurd H (by simp)
          rw [if_neg c42] at H
          exact absurd H (by simp)
         rw [if_neg c41] at H
         have c41b0 : decide (0 < (x0_1.length : Int)) = false := decide_eq_false c41
         have c41b1 : decide (0 < x0_1.length) = false := decide_eq_false (by omega)
         clear c41
         by_cases c59 : 0 < (x1_1.length : Int)
         ·rw [if_pos c59] at H
          have c59b0 : decide (0 < (x1_1.length : Int)) = true := decide_eq_true c59
          have c59b1 : decide (0 < x1_1.length) = true := decide_eq_true (by omega)
          clear c59
          by_cases c60 : x7_1.length < 3518437208883
          ·rw [if_pos c60] at H
           have LMc60 := ak_ c60
           clear c60
           obtain ⟨y235, hy235⟩ : ∃ y_ : List (S60), y_ = (x7_1 ++ [(⟨(rd_T77 x1_1 0).f0, true, (rd_T77 x1_1 0).f1⟩ : S60)]) := ⟨_, rfl⟩
           replace H : (if 1 ≤ (x1_1.length : Int) then (item_Diff.l0 kj28 x0_1 (x1_1.drop 1) y235) else (none)) = some (r1, r2) := by first | (rw [hy235]; with_reducible exact H) | (have H2_ := (Option.bind_some _ _).symm.trans H; rw [hy235]; with_reducible exact H2_) | (have H2_ := (Option.bind_some _ _).symm.trans H; with_reducible exact H2_) | with_reducible exact H | (rw [hy235]; exact H) | exact H
           have Ny235 := ak_ hy235
           clear hy235
           by_cases c61 : 1 ≤ (x1_1.length : Int)
           ·rw [if_pos c61] at H
            have c61b0 := eq_true c61
            have c61b1 : decide (1 ≤ (x1_1.length : Int)) = true := decide_eq_true c61
            clear c61
            obtain ⟨y238, hy238⟩ : ∃ y_ : List (S77), y_ = (x1_1.drop 1) := ⟨_, rfl⟩
            replace H : (item_Diff.l0 kj28 x0_1 y238 y235) = some (r1, r2) := by first | (rw [hy238]; with_reducible exact H) | (have H2_ := (Option.bind_some _ _).symm.trans H; rw [hy238]; with_reducible exact H2_) | (have H2_ := (Option.bind_some _ _).symm.trans H; with_reducible exact H2_) | with_reducible exact H | (rw [hy238]; exact H) | exact H
            have Ny238 := ak_ hy238
            clear hy238
            have H' := ak_ H
            clear H
            try go_wp2
            replace HO_0 := ak_ (Kd.V_drew HO_0.out)
            replace HO_1 := ak_ (Kd.V_drew HO_1.out)
            replace HO_7 := ak_ (Kd.R_drew HO_7.out)
            replace HB := ak_ (below_drew1 HB.out)
            refine start_ (n := 15) (S := fun w' => True) (ds := []) #[false, false, false, false, false, false, false, false, false, false, false, false, false, false, false] (by kernel_rfl) rfl rfl trivial (fun hHeld => ?_); refine with_tabW item_Diff.tab11 item_Diff.bits11 (fun HT_ HW_ => ?_)
            generalize wc.drew = w62 at HO_0 HO_1 HO_7 HB hHeld ⊢
            refine pu_ 0 71 ?_
            refine pu_ 1 72 ?_
            refine pu_ 2 73 ?_
            refine pu_ 3 74 ?_
            refine un_ 4 75 ?_
            refine un_ 5 76 ?_
            refine un_ 6 77 ?_
            refine un_ 7 78 ?_
            refine un_ 8 79 ?_
            refine un_ 9 80 ?_
            refine un_ 10 81 ?_
            refine un_ 11 82 ?_
            refine un_ 12 83 ?_
            refine pu_ 13 84 ?_
            refine pu_ 14 70 ?_
            refine done_ (done_of HT_.out (by kernel_rfl)) ?_
            try go_wp2
            replace HO_0 := ak_ (Kd.V_drew HO_0.out)
            replace HO_1 := ak_ (Kd.V_drew HO_1.out)
            replace HO_7 := ak_ (Kd.R_drew HO_7.out)
            replace HB := ak_ (below_drew1 HB.out)
            have p233 : 0 ≤ (0 : Int) := (by omega)
            have q233 : 0 < (x1_1.length : Int) := of_decide_eq_true (by first | (with_reducible assumption) | assumption)
            obtain ⟨ad233, e233, hx233_0, hx233_1⟩ := at_T77 (Kd.V_reads' HO_1.out).2.2 0 p233 q233
            cases e233
            have qi233 : (0 < x1_1.length) = True := eq_true (by omega)
            (try rw [show ((0 : Int)).toNat = 0 from rfl] at hx233_0)
            (try rw [show 0 * 2 = 0 from rfl] at hx233_0)
            (try rw [Addr.add_zero'] at hx233_0)
            (try rw [show ((0 : Int)).toNat = 0 from rfl] at hx233_1)
            (try rw [show 0 * 2 = 0 from rfl] at hx233_1)
            (try rw [Addr.add_zero'] at hx233_1)
            replace p233 := eq_true p233
            replace q233 := eq_true q233
            have p234 : 0 ≤ (0 : Int) := (by omega)
            have q234 : 0 < (x1_1.length : Int) := of_decide_eq_true (by first | (with_reducible assumption) | assumption)
            obtain ⟨ad234, e234, hx234_0, hx234_1⟩ := at_T77 (Kd.V_reads' HO_1.out).2.2 0 p234 q234
            obtain rfl : ad233 = ad234 := (by injection e234)
            have qi234 : (0 < x1_1.length) = True := eq_true (by omega)
            (try rw [show ((0 : Int)).toNat = 0 from rfl] at hx234_0)
            (try rw [show 0 * 2 = 0 from rfl] at hx234_0)
            (try rw [Addr.add_zero'] at hx234_0)
            (try rw [show ((0 : Int)).toNat = 0 from rfl] at hx234_1)
            (try rw [show 0 * 2 = 0 from rfl] at hx234_1)
            (try rw [Addr.add_zero'] at hx234_1)
            replace p234 := eq_true p234
            replace q234 := eq_true q234
            refine start_ (n := 13) (S := fun w' => w'.cell? ad233 = some (.string ((rd_T77 x1_1 0).f0)) ∧ w'.cell? ⟨ad233.block, ad233.off + 1, none⟩ = some (.string ((rd_T77 x1_1 0).f1)) ∧ w'.cell? ad233 = some (.string ((rd_T77 x1_1 0).f0)) ∧ w'.cell? ⟨ad233.block, ad233.off + 1, none⟩ = some (.string ((rd_T77 x1_1 0).f1))) (ds := [10, 11]) #[false, false, false, false, false, false, false, false, false, false, false, false, false] (by kernel_rfl) rfl rfl ⟨hx233_0, hx233_1, hx234_0, hx234_1⟩ (fun hHeld => ?_); refine with_tabW item_Diff.tab13 item_Diff.bits13 (fun HT_ HW_ => ?_)
            generalize w62.drew = w63 at HO_0 HO_1 HO_7 HB hx233_0 hx233_1 hx234_0 hx234_1 hHeld ⊢
            refine pu_ 0 87 ?_
            refine pu_ 1 88 ?_
            refine pu_ 2 89 ?_
            refine pu_ 3 90 ?_
            refine pu_ 5 92 ?_
            refine pu_ 6 93 ?_
            refine pu_ 7 94 ?_
            refine tk4_ 4 91 ?_
            refine tk4_ 8 95 ?_
            refine pu_ 9 96 ?_
            refine last_ (i := 10) (N := some 97) #[true, true, true, true, true, true, true, true, true, true, true, false, false] rfl rfl (one_of HT_.out (by kernel_rfl)) (by decide) (fun K hK => ?_)
            refine value_ (w1 := ?_) (v := ?_) (by rfl) rfl ?_ ?_
            rotate_left 2
            ·go_simp
             constructor
             ·rfl
             rfl
            refine hK.out _ _ ?_
            clear hK K
            refine nm_ 97 ?_
            refine last_ (i := 11) (N := some 98) #[true, true, true, true, true, true, true, true, true, true, true, true, false] rfl rfl (one_of HT_.out (by kernel_rfl)) (by decide) (fun K hK => ?_)
            refine Kd.R_append_step k60 (w0 := w) w.heap.size (by rfl) (.tmp 87) (.tmp 97) 43 60 (.agg #[(.string ⟨#[]⟩), (.bool false), (.string ⟨#[]⟩)]) 40 rfl Tryz.underlying43 info60 rfl (by decide) (by omega) u7 x7_1 (⟨(rd_T77 x1_1 0).f0, true, (rd_T77 x1_1 0).f1⟩ : S60) [.string ((rd_T77 x1_1 0).f0), .bool true, .string ((rd_T77 x1_1 0).f1)] (fun k_ => (w.heap.size ≤ k_)) (fun _ => False) rfl rfl ?aP (fun _ hk => hk.elim) ?aF ?aO ?aB ?aS ?aL ?_
            (case aP => exact k60_mkM _ _ _ (⟨(rd_T77 x1_1 0).f0, true, (rd_T77 x1_1 0).f1⟩ : S60))
            (case aB => exact bel_)
            (case aF => exact (fun k_ hk => (Nat.le_trans (below_size bel_) hk)))
            (case aO => exact (ra_ HO_7))
            (case aS => exact (below_size bel_))
            (case aL => have := LMc60.out; omega)
            intro v236 w64 ho hb hg hat
            rw [← Ny235.out] at ho
            have HO237 := ak_ (ho)
            replace HO_0 := ak_ (Kd.V_afterv (ok := (fun k_ => ((P0_ k_ ∨ P1_ k_) ∨ w.heap.size ≤ k_))) (by (with_reducible repeat (first | apply Kd.V_alloc | apply Kd.V_drewN | apply Kd.V_drew)); exact HO_0.out) hg hat)
            replace HO_1 := ak_ (Kd.V_afterv (ok := (fun k_ => ((P0_ k_ ∨ P1_ k_) ∨ w.heap.size ≤ k_))) (by (with_reducible repeat (first | apply Kd.V_alloc | apply Kd.V_drewN | apply Kd.V_drew)); exact HO_1.out) hg hat)
            replace HB := ak_ (hb)
            clear HO_7
            clear ho hb hg hat
            refine hK.out _ _ ?_
            clear hK K
            refine nm_ 98 ?_
            refine pu_ 12 7 ?_
            refine done_ (done_of HT_.out (by kernel_rfl)) ?_
            have q65 : (1 : Int) ≤ ((x1_1.length : Int) : Int) := of_decide_eq_true (by first | (with_reducible assumption) | assumption)
            obtain ⟨i065, hi065, _, hsz65, _⟩ := info_parts info77
            have hroom65 : x1_1.length ≤ co15 := (Kd.V_reads' HO_1.out).2.1
            have hC65 : Kd.F k77 _ _ (some ad233) x1_1.length x1_1 := (Kd.V_at (base := w.heap.size) HO_1.out).2.2
            have hcut65 := cut_from (P := Tryz.prog) 22 77 .i64 Tryz.underlying22 hi065 2 hsz65 (some ad233) x1_1.length co15 1 (by omega) q65
            have hr65 := Kd.F_cut (m := (1 : Int).toNat) (c := co15) hC65 (by omega) hroom65
            obtain ⟨A65, hA65⟩ : ∃ z_, z_ = (if co15 = (1 : Int).toNat then (some ad233) else ((some ad233) : Option Addr).map (·.add ((1 : Int).toNat * 2))) := ⟨_, rfl⟩
            obtain ⟨c65, hc65⟩ : ∃ z_, z_ = co15 - (1 : Int).toNat := ⟨_, rfl⟩
            have hy65 : y238.length = x1_1.length - (1 : Int).toNat := (by rw [Ny238.out, List.length_drop] <;> omega)
            rw [show (x1_1).drop (1 : Int).toNat = y238 from Ny238.out.symm] at hr65
            replace hr65 : Kd.F k77 _ _ A65 y238.length y238 := (by rw [hA65]; exact hr65)
            rw [← hy65, ← hA65, ← hc65] at hcut65
            have HO242 := ak_ (show Kd.V k77 77 _ w.heap.size _ (.slice A65 y238.length c65) y238 from Kd.V_mk (by rw [hy65, hc65]; exact Nat.sub_le_sub_right hroom65 _) hr65)
            have HC242 := ak_ (show y238.length ≤ c65 from by rw [hy65, hc65]; exact Nat.sub_le_sub_right hroom65 _)
            clear hr65 hC65 hroom65 hi065 hsz65 hc65
            have KY65 := ak_ hy65
            have KA65 := ak_ hA65
            clear hy65 hA65
            replace q65 := eq_true q65
            try go_wp2
            go_roundg kj28
            case measure => have := HK1.out; have := HJ12.out; have := HJ28.out; omega
            case rel => exact ⟨(x0_1), (y238), (y235), H', ⟨by have := HK1.out; have := HJ12.out; have := HJ28.out; omega⟩, ⟨by (with_reducible repeat (first | apply Kd.V_alloc | apply Kd.V_drewN | apply Kd.V_drew)); exact HO_0.out⟩, ⟨by (with_reducible repeat (first | apply Kd.V_alloc | apply Kd.V_drewN | apply Kd.V_drew)); exact HO242.out⟩, ⟨ra_ HO237⟩, ⟨bel_⟩⟩
           rw [if_neg c61] at H
           exact absurd H (by simp)
          rw [if_neg c60] at H
          exact absurd H (by simp)
         rw [if_neg c59] at H
         exact absurd H (by simp)
    rw [if_neg c12] at H
    have c12b0 : decide (0 < (wrap64 ((x0_1.length : Int) + (x1_1.length : Int)))) = false := decide_eq_false c12
    clear c12
    simp only [Option.some.injEq, Prod.mk.injEq] at H
    obtain ⟨rfl, rfl⟩ := H
    obtain ⟨Ao66, co66, eo66⟩ := Kd.V_slice HO_0.out
    subst eo66
    obtain ⟨Ao67, co67, eo67⟩ := Kd.V_slice HO_1.out
    subst eo67
    go_wp2
    (try (refine wp_scope_post ?_; go_wp2))
    (try (go_step3; go_wp2))
    go_ret2
    exact ⟨_, by first | rfl | (simp [errW_none, errW_some] <;> rfl) | (simp [*, errW_none, errW_some] <;> rfl), by (with_reducible repeat (first | apply Kd.R_alloc | apply Kd.R_drewN | apply Kd.R_drew)); exact HO_7.out, bel_⟩
 rw [if_neg c6] at H
 have c6b0 : (t182 == 0) = false := beq_eq_false_iff_ne.mpr c6
 have c6b1 : (t182 != 0) = true := bne_iff_ne.mpr c6
 simp only [Option.some.injEq, Prod.mk.injEq] at H
 obtain ⟨rfl, rfl⟩ := H
 go_enter Tryz.func23, Tryz.ntmps23
 go_wp2_with (first | ((with_reducible refine gate_callee (f := 40) rfl ?_); refine gl_ (some 9) Tryz.func40 #[.slice A0 l0.length c0] ?_; (with_reducible refine (item_Check.calls k _ _ l0 t177 _ ?side1 ?side2 A3.out).mono ?_); (case side1 => repeat (first | exact (Kd.V_reads' HO0.out).2.2 | (with_reducible refine Kd.C_alloc ?_ _) | (with_reducible refine Kd.C_drewN ?_ _) | (with_reducible refine Kd.C_drew ?_))); (case side2 => exact (Kd.V_reads' HO0.out).2.1); rintro e w68 ⟨rfl, hb⟩; refine ⟨_, rfl, ?_⟩; replace HO0 := ak_ (Kd.V_below (by (with_reducible repeat (first | apply Kd.V_alloc | apply Kd.V_drewN | apply Kd.V_drew)); exact HO0.out) hb); replace HO1 := ak_ (Kd.V_below (by (with_reducible repeat (first | apply Kd.V_alloc | apply Kd.V_drewN | apply Kd.V_drew)); exact HO1.out) hb); replace HB := hb_ hb; (try clear hb); (try clear hb2); (try clear hk); (try clear hi)) | ((with_reducible refine gate_callee (f := 40) rfl ?_); refine gl_ (some 11) Tryz.func40 #[.slice A1 l1.length c1] ?_; (with_reducible refine (item_Check.calls k _ _ l1 t178 _ ?side1 ?side2 A4.out).mono ?_); (case side1 => repeat (first | exact (Kd.V_reads' HO1.out).2.2 | (with_reducible refine Kd.C_alloc ?_ _) | (with_reducible refine Kd.C_drewN ?_ _) | (with_reducible refine Kd.C_drew ?_))); (case side2 => exact (Kd.V_reads' HO1.out).2.1); rintro e w69 ⟨rfl, hb⟩; refine ⟨_, rfl, ?_⟩; replace HO0 := ak_ (Kd.V_below (by (with_reducible repeat (first | apply Kd.V_alloc | apply Kd.V_drewN | apply Kd.V_drew)); exact HO0.out) hb); replace HO1 := ak_ (Kd.V_below (by (with_reducible repeat (first | apply Kd.V_alloc | apply Kd.V_drewN | apply Kd.V_drew)); exact HO1.out) hb); replace HB := hb_ hb; (try clear hb); (try clear hb2); (try clear hk); (try clear hi)) | ((with_reducible refine gate_dst (N := 12) rfl ?_); (try (refine gate_guard (by rfl) ?_; dsimp only)); refine Kd.R_lit (Kd.int .i64) _ 23 ?hg (N := 12) ?hd (xs := ([t177, t178] : List Int)) (inner := [.int .i64 t177, .int .i64 t178]) (ok := fun _ => True) (okp := fun _ => True) ?hr ?hp (fun _ hk => hk) trivial (Below.refl _ _) (Nat.le_refl _) (by simp) ?_; (case hd => rfl); (case hg => rfl); (case hr => first | (go_simp; done) | (go_simp; rfl)); (case hp => exact (Reps.one (show Kd.M (Kd.int .i64) _ _ _ t177 [.int .i64 t177] from rfl) (Reps.one (show Kd.M (Kd.int .i64) _ _ _ t178 [.int .i64 t178] from rfl) (Reps.none _ _)))); intro v180 w70 ho71 hb hg_ hnew_; clear hg_ hnew_; (first | rw [← Ny179.out] at ho71 | (simp only [Int.reduceToNat] at ho71; rw [← Ny179.out] at ho71)); have HO181 := ak_ (Kd.R_lower (Kd.R_newM (M := fun k_ => (w.heap.size ≤ k_)) ho71 (below_size bel_) (fun k_ h_ => h_)) (below_size bel_)); replace HO0 := ak_ (Kd.V_elder' (by (with_reducible repeat (first | apply Kd.V_alloc | apply Kd.V_drewN | apply Kd.V_drew)); exact HO0.out) (Kd.R_base ho71) hb); replace HO1 := ak_ (Kd.V_elder' (by (with_reducible repeat (first | apply Kd.V_alloc | apply Kd.V_drewN | apply Kd.V_drew)); exact HO1.out) (Kd.R_base ho71) hb); replace HB := hb_ hb; clear hb ho71; obtain ⟨Ao72, co72, eo72⟩ := Kd.R_slice HO181.out; subst eo72) | ((with_reducible refine gate_callee (f := 48) rfl ?_); refine gl_ (some 13) Tryz.func48 #[.slice Ao72 y179.length co72] ?_; (with_reducible refine (cmp_Or_api_Errno.calls k _ _ y179 t182 _ ?side1 ?side2 A5.out).mono ?_); (case side1 => exact cr_ HO181); (case side2 => exact (Kd.R_reads' HO181.out).2.1); rintro e w' ⟨rfl, ⟨nd, rfl⟩⟩; refine ⟨_, rfl, ?_⟩))
 (try (refine wp_scope_post ?_; go_wp2_with (first | ((with_reducible refine gate_callee (f := 40) rfl ?_); refine gl_ (some 9) Tryz.func40 #[.slice A0 l0.length c0] ?_; (with_reducible refine (item_Check.calls k _ _ l0 t177 _ ?sideB1 ?sideB2 A3.out).mono ?_); (case sideB1 => repeat (first | exact (Kd.V_reads' HO0.out).2.2 | (with_reducible refine Kd.C_alloc ?_ _) | (with_reducible refine Kd.C_drewN ?_ _) | (with_reducible refine Kd.C_drew ?_))); (case sideB2 => exact (Kd.V_reads' HO0.out).2.1); rintro e w68 ⟨rfl, hb⟩; refine ⟨_, rfl, ?_⟩; replace HO0 := ak_ (Kd.V_below (by (with_reducible repeat (first | apply Kd.V_alloc | apply Kd.V_drewN | apply Kd.V_drew)); exact HO0.out) hb); replace HO1 := ak_ (Kd.V_below (by (with_reducible repeat (first | apply Kd.V_alloc | apply Kd.V_drewN | apply Kd.V_drew)); exact HO1.out) hb); replace HB := hb_ hb; (try clear hb); (try clear hb2); (try clear hk); (try clear hi)) | ((with_reducible refine gate_callee (f := 40) rfl ?_); refine gl_ (some 11) Tryz.func40 #[.slice A1 l1.length c1] ?_; (with_reducible refine (item_Check.calls k _ _ l1 t178 _ ?sideB1 ?sideB2 A4.out).mono ?_); (case sideB1 => repeat (first | exact (Kd.V_reads' HO1.out).2.2 | (with_reducible refine Kd.C_alloc ?_ _) | (with_reducible refine Kd.C_drewN ?_ _) | (with_reducible refine Kd.C_drew ?_))); (case sideB2 => exact (Kd.V_reads' HO1.out).2.1); rintro e w69 ⟨rfl, hb⟩; refine ⟨_, rfl, ?_⟩; replace HO0 := ak_ (Kd.V_below (by (with_reducible repeat (first | apply Kd.V_alloc | apply Kd.V_drewN | apply Kd.V_drew)); exact HO0.out) hb); replace HO1 := ak_ (Kd.V_below (by (with_reducible repeat (first | apply Kd.V_alloc | apply Kd.V_drewN | apply Kd.V_drew)); exact HO1.out) hb); replace HB := hb_ hb; (try clear hb); (try clear hb2); (try clear hk); (try clear hi)) | ((with_reducible refine gate_dst (N := 12) rfl ?_); (try (refine gate_guard (by rfl) ?_; dsimp only)); refine Kd.R_lit (Kd.int .i64) _ 23 ?hg (N := 12) ?hd (xs := ([t177, t178] : List Int)) (inner := [.int .i64 t177, .int .i64 t178]) (ok := fun _ => True) (okp := fun _ => True) ?hr ?hp (fun _ hk => hk) trivial (Below.refl _ _) (Nat.le_refl _) (by simp) ?_; (case hd => rfl); (case hg => rfl); (case hr => first | (go_simp; done) | (go_simp; rfl)); (case hp => exact (Reps.one (show Kd.M (Kd.int .i64) _ _ _ t177 [.int .i64 t177] from rfl) (Reps.one (show Kd.M (Kd.int .i64) _ _ _ t178 [.int .i64 t178] from rfl) (Reps.none _ _)))); intro v180 w70 ho71 hb hg_ hnew_; clear hg_ hnew_; (first | rw [← Ny179.out] at ho71 | (simp only [Int.reduceToNat] at ho71; rw [← Ny179.out] at ho71)); have HO181 := ak_ (Kd.R_lower (Kd.R_newM (M := fun k_ => (w.heap.size ≤ k_)) ho71 (below_size bel_) (fun k_ h_ => h_)) (below_size bel_)); replace HO0 := ak_ (Kd.V_elder' (by (with_reducible repeat (first | apply Kd.V_alloc | apply Kd.V_drewN | apply Kd.V_drew)); exact HO0.out) (Kd.R_base ho71) hb); replace HO1 := ak_ (Kd.V_elder' (by (with_reducible repeat (first | apply Kd.V_alloc | apply Kd.V_drewN | apply Kd.V_drew)); exact HO1.out) (Kd.R_base ho71) hb); replace HB := hb_ hb; clear hb ho71; obtain ⟨Ao72, co72, eo72⟩ := Kd.R_slice HO181.out; subst eo72) | ((with_reducible refine gate_callee (f := 48) rfl ?_); refine gl_ (some 13) Tryz.func48 #[.slice Ao72 y179.length co72] ?_; (with_reducible refine (cmp_Or_api_Errno.calls k _ _ y179 t182 _ ?sideB1 ?sideB2 A5.out).mono ?_); (case sideB1 => exact cr_ HO181); (case sideB2 => exact (Kd.R_reads' HO181.out).2.1); rintro e w' ⟨rfl, ⟨nd, rfl⟩⟩; refine ⟨_, rfl, ?_⟩))))
 (try (go_step3; go_wp2_with (first | ((with_reducible refine gate_callee (f := 40) rfl ?_); refine gl_ (some 9) Tryz.func40 #[.slice A0 l0.length c0] ?_; (with_reducible refine (item_Check.calls k _ _ l0 t177 _ ?sideC1 ?sideC2 A3.out).mono ?_); (case sideC1 => repeat (first | exact (Kd.V_reads' HO0.out).2.2 | (with_reducible refine Kd.C_alloc ?_ _) | (with_reducible refine Kd.C_drewN ?_ _) | (with_reducible refine Kd.C_drew ?_))); (case sideC2 => exact (Kd.V_reads' HO0.out).2.1); rintro e w68 ⟨rfl, hb⟩; refine ⟨_, rfl, ?_⟩; replace HO0 := ak_ (Kd.V_below (by (with_reducible repeat (first | apply Kd.V_alloc | apply Kd.V_drewN | apply Kd.V_drew)); exact HO0.out) hb); replace HO1 := ak_ (Kd.V_below (by (with_reducible repeat (first | apply Kd.V_alloc | apply Kd.V_drewN | apply Kd.V_drew)); exact HO1.out) hb); replace HB := hb_ hb; (try clear hb); (try clear hb2); (try clear hk); (try clear hi)) | ((with_reducible refine gate_callee (f := 40) rfl ?_); refine gl_ (some 11) Tryz.func40 #[.slice A1 l1.length c1] ?_; (with_reducible refine (item_Check.calls k _ _ l1 t178 _ ?sideC1 ?sideC2 A4.out).mono ?_); (case sideC1 => repeat (first | exact (Kd.V_reads' HO1.out).2.2 | (with_reducible refine Kd.C_alloc ?_ _) | (with_reducible refine Kd.C_drewN ?_ _) | (with_reducible refine Kd.C_drew ?_))); (case sideC2 => exact (Kd.V_reads' HO1.out).2.1); rintro e w69 ⟨rfl, hb⟩; refine ⟨_, rfl, ?_⟩; replace HO0 := ak_ (Kd.V_below (by (with_reducible repeat (first | apply Kd.V_alloc | apply Kd.V_drewN | apply Kd.V_drew)); exact HO0.out) hb); replace HO1 := ak_ (Kd.V_below (by (with_reducible repeat (first | apply Kd.V_alloc | apply Kd.V_drewN | apply Kd.V_drew)); exact HO1.out) hb); replace HB := hb_ hb; (try clear hb); (try clear hb2); (try clear hk); (try clear hi)) | ((with_reducible refine gate_dst (N := 12) rfl ?_); (try (refine gate_guard (by rfl) ?_; dsimp only)); refine Kd.R_lit (Kd.int .i64) _ 23 ?hg (N := 12) ?hd (xs := ([t177, t178] : List Int)) (inner := [.int .i64 t177, .int .i64 t178]) (ok := fun _ => True) (okp := fun _ => True) ?hr ?hp (fun _ hk => hk) trivial (Below.refl _ _) (Nat.le_refl _) (by simp) ?_; (case hd => rfl); (case hg => rfl); (case hr => first | (go_simp; done) | (go_simp; rfl)); (case hp => exact (Reps.one (show Kd.M (Kd.int .i64) _ _ _ t177 [.int .i64 t177] from rfl) (Reps.one (show Kd.M (Kd.int .i64) _ _ _ t178 [.int .i64 t178] from rfl) (Reps.none _ _)))); intro v180 w70 ho71 hb hg_ hnew_; clear hg_ hnew_; (first | rw [← Ny179.out] at ho71 | (simp only [Int.reduceToNat] at ho71; rw [← Ny179.out] at ho71)); have HO181 := ak_ (Kd.R_lower (Kd.R_newM (M := fun k_ => (w.heap.size ≤ k_)) ho71 (below_size bel_) (fun k_ h_ => h_)) (below_size bel_)); replace HO0 := ak_ (Kd.V_elder' (by (with_reducible repeat (first | apply Kd.V_alloc | apply Kd.V_drewN | apply Kd.V_drew)); exact HO0.out) (Kd.R_base ho71) hb); replace HO1 := ak_ (Kd.V_elder' (by (with_reducible repeat (first | apply Kd.V_alloc | apply Kd.V_drewN | apply Kd.V_drew)); exact HO1.out) (Kd.R_base ho71) hb); replace HB := hb_ hb; clear hb ho71; obtain ⟨Ao72, co72, eo72⟩ := Kd.R_slice HO181.out; subst eo72) | ((with_reducible refine gate_callee (f := 48) rfl ?_); refine gl_ (some 13) Tryz.func48 #[.slice Ao72 y179.length co72] ?_; (with_reducible refine (cmp_Or_api_Errno.calls k _ _ y179 t182 _ ?sideC1 ?sideC2 A5.out).mono ?_); (case sideC1 => exact cr_ HO181); (case sideC2 => exact (Kd.R_reads' HO181.out).2.1); rintro e w' ⟨rfl, ⟨nd, rfl⟩⟩; refine ⟨_, rfl, ?_⟩))))
 go_ret2
 exact ⟨_, by first | rfl | (simp [errW_none, errW_some] <;> rfl) | (simp [*, errW_none, errW_some] <;> rfl), by first | exact Kd.R_nil _ _ _ _ _ | exact Kd.N_nil _ _ _ _ _ | exact Kd.V_nil _ _ _ _ _ | exact Kd.Q_nil _ _ _ _ _ | exact Kd.S_nil _ _ _ _ _, bel_⟩
end Go.Proofs.YtfkofbabeghgkaaGreat.Z
end

section
namespace Go.Proofs.YtfkofbabeghgkaaGreat.Z
theorem itCheckC_l0 (l : List Ch) (hl : l.length ≤ 4398046511104) : ∀ d i : Nat, l.length = i + d → Ev (fun k => item_CheckChanges.l0 k l (l.length : Int) (i : Int)) (ckS ((l.drop i).all okc)) := by
  intro d
  induction d with
  | zero =>
    intro i hi
    refine Ev.step (fun k => by rw [item_CheckChanges.l0]) (Ev.ifn (by omega) (Ev.const ?_))
    rw [List.drop_of_length_le (by omega)]; rfl
  | succ d ih =>
    intro i hi
    have hlt : i < l.length := by omega
    have ih := ih (i + 1) (by omega)
    rw [List.drop_eq_getElem_cons hlt, List.all_cons]
    refine Ev.step (fun k => by rw [item_CheckChanges.l0]) (Ev.ifp (by omega) (Ev.ifp (by omega) (Ev.ifp (by omega) (Ev.bindc (by rw [rdc_get l i hlt]; exact rightc_f _) ?_))))
    rw [rdc_get l i hlt, w64 (by omega) (by omega)]
    unfold okc at ih ⊢
    cases hr : (okK (l[i]).f0 && decide ((l[i]).f2.size ≤ 160)) with
    | false => exact Ev.ifn (by simp) (Ev.const rfl)
    | true =>
      refine Ev.ifp rfl (Ev.ite (fun h => Ev.val ih ?_) (fun h => Ev.ite (fun h2 => Ev.val ih ?_) (fun h2 => Ev.const ?_)))
      · simp [h]
      · simp [h2]
      · simp [h, h2, ckS]
theorem itCheckC (l : List Ch) (hl : l.length ≤ 4398046511104) : Ev (fun k => item_CheckChanges.f k l) (ckS (okC l)) := itCheckC_l0 l hl l.length 0 (by omega)
theorem or_f (x y : Int) : Ev (fun k => cmp_Or_api_Errno.f k [x, y]) (if x = 0 then y else x) := by
  unfold cmp_Or_api_Errno.f
  have r0 : rd [x, y] 0 = x := rfl
  have r1 : rd [x, y] 1 = y := rfl
  have e1 : wrap64 (0 + 1) = 1 := (w64 (by omega) (by omega)).trans rfl
  have e2 : wrap64 (1 + 1) = 2 := (w64 (by omega) (by omega)).trans rfl
  refine Ev.step (fun k => by rw [cmp_Or_api_Errno.l0]) (Ev.ifp (by simp) (Ev.ifp (by omega) (Ev.ifp (by simp) ?_)))
  rw [r0, e1]
  refine Ev.ite (fun h => ?_) (fun h => Ev.const (by rw [if_neg h]))
  refine Ev.step (fun k => by rw [cmp_Or_api_Errno.l0]) (Ev.ifp (by simp) (Ev.ifp (by omega) (Ev.ifp (by simp) ?_)))
  rw [r1, e2, if_pos h]
  refine Ev.ite (fun h2 => ?_) (fun h2 => Ev.const rfl)
  refine Ev.step (fun k => by rw [cmp_Or_api_Errno.l0]) (Ev.ifn (by simp) (Ev.const ?_))
  rw [h2]
theorem or_ck (a b : Bool) : Ev (fun k => cmp_Or_api_Errno.f k [ckS a, ckS b]) (ckS (a && b)) := Ev.val (or_f _ _) (by cases a <;> cases b <;> rfl)
-- Apply
def aplS (l : List It) (cs : List Ch) : List It × Int := if (okL l && okC cs) = true then (apl l cs, 0) else ([], 4)
theorem lo_take (l : List It) (k : List UInt8) : l.take (lo l k).length = lo l k := by
  have := congrArg (List.take (lo l k).length) (lo_up l k)
  rw [List.take_left] at this
  exact this.symm
theorem hi_drop {l : List It} (ha : Asc l) {k : List UInt8} (hf : fnd l k = true) : l.drop ((lo l k).length + 1) = hi l k := by
  obtain ⟨h, _, hp⟩ := at_fnd ha hf
  have := congrArg (List.drop ((lo l k).length + 1)) hp
  rw [List.drop_left' (by simp)] at this
  exact this
theorem hi_drop' {l : List It} (ha : Asc l) {k : List UInt8} (hf : fnd l k = false) : l.drop (lo l k).length = hi l k := by
  have := congrArg (List.drop (lo l k).length) (not_fnd ha hf)
  rw [List.drop_left] at this
  exact this
theorem put_set {l : List It} (ha : Asc l) {c : Ch} (hf : fnd l (ck c) = true) (hh : c.f1 = true) (h : (lo l (ck c)).length < l.length) : l.set (lo l (ck c)).length ⟨(l[(lo l (ck c)).length]).f0, c.f2⟩ = put l c := by
  obtain ⟨_, hk, hp⟩ := at_fnd ha hf
  rw [List.set_eq_take_append_cons_drop, if_pos h, lo_take, hi_drop ha hf]
  have e : (l[(lo l (ck c)).length]).f0 = c.f0 := bytes_inj hk
  rw [e]
  unfold put new_
  rw [if_pos hh, List.append_assoc]; rfl
theorem put_del {l : List It} (ha : Asc l) {c : Ch} (hf : fnd l (ck c) = true) (hh : c.f1 = false) : l.take (lo l (ck c)).length ++ l.drop ((lo l (ck c)).length + 1) = put l c := by
  rw [lo_take, hi_drop ha hf]
  unfold put new_
  rw [hh]; simp
theorem put_ins {l : List It} (ha : Asc l) {c : Ch} (hf : fnd l (ck c) = false) (hh : c.f1 = true) : l.take (lo l (ck c)).length ++ [⟨c.f0, c.f2⟩] ++ l.drop (lo l (ck c)).length = put l c := by
  rw [lo_take, hi_drop' ha hf]
  unfold put new_
  rw [if_pos hh]
theorem put_non {l : List It} (ha : Asc l) {c : Ch} (hf : fnd l (ck c) = false) (hh : c.f1 = false) : l = put l c := by
  unfold put new_
  rw [hh]
  simpa using not_fnd ha hf
theorem apl_l0 (cs : List Ch) (hcs : cs.length ≤ 4398046511000) : ∀ d i : Nat, cs.length = i + d → ∀ l : List It, okL l = true → okC (cs.drop i) = true → l.length + d ≤ 4398046511000 →
    Ev (fun k => item_Apply.l0 k l cs (cs.length : Int) (i : Int)) (apl l (cs.drop i), 0) := by
  intro d
  induction d with
  | zero =>
    intro i hi l ho hoc hb
    refine Ev.step (fun k => by rw [item_Apply.l0]) (Ev.ifn (by omega) (Ev.const ?_))
    rw [List.drop_of_length_le (by omega)]; rfl
  | succ d ih =>
    intro i hi l ho hoc hb
    have hlt : i < cs.length := by omega
    have ha := ((okL_iff l).1 ho).2
    obtain ⟨c, hc⟩ : ∃ c, c = cs[i] := ⟨_, rfl⟩
    rw [List.drop_eq_getElem_cons hlt, ← hc] at hoc ⊢
    unfold okC at hoc
    rw [List.all_cons, Bool.and_eq_true] at hoc
    have hpl := put_len l c
    have hpo := put_ok ho hoc.1
    have hlp := lo_le l (ck c)
    -- what is done here, then the rest
    have go : ∀ r : List It, r = put l c → Ev (fun k => item_Apply.l0 k r cs (cs.length : Int) (wrap64 ((i : Int) + 1))) (apl l (c :: cs.drop (i + 1)), 0) := by
      rintro r rfl
      rw [w64 (by omega) (by omega)]
      exact ih (i + 1) (by omega) (put l c) hpo hoc.2 (by omega)
    refine Ev.step (fun k => by rw [item_Apply.l0]) (Ev.ifp (by omega) (Ev.ifp (by omega) (Ev.ifp (by omega) ?_)))
    rw [rdc_get cs i hlt, ← hc]
    have hpf : Ev (fun k => item_place.f k l c.f0) (((lo l (ck c)).length : Int), fnd l (ck c)) := place_f ha (by omega) c.f0
    refine Ev.bind hpf ?_
    clear hpf
    have hw : wrap64 (((lo l (ck c)).length : Int) + 1) = ((lo l (ck c)).length : Int) + 1 := w64 (by omega) (by omega)
    cases hf : fnd l (ck c) with
    | true =>
      refine Ev.ifp rfl (Ev.step (fun k => by rw [item_Apply.j1]) ?_)
      obtain ⟨hp, _, _⟩ := at_fnd ha hf
      cases hh : c.f1 with
      | true =>
        refine Ev.ifp rfl (Ev.ifp (by simp only; omega) (Ev.ifp (by simp only; omega) (go _ ?_)))
        simp only
        rw [rd_get l _ hp, Int.toNat_natCast]
        exact put_set ha hf hh hp
      | false =>
        refine Ev.ifn (by simp) (Ev.ifp rfl (Ev.bindc ?_ (go _ (put_del ha hf hh))))
        simp only
        unfold slices_Delete_api_Item_api_Item.f
        rw [hw, if_pos ⟨by omega, by omega, rfl⟩, Int.toNat_natCast]
    | false =>
      refine Ev.ifn (by simp) (Ev.step (fun k => by rw [item_Apply.j1]) ?_)
      refine Ev.ifn (by simp) (Ev.ifn (by simp) ?_)
      cases hh : c.f1 with
      | true =>
        refine Ev.ifp rfl (Ev.bindc ?_ (go _ (put_ins ha hf hh)))
        simp only
        unfold slices_Insert_api_Item_api_Item.f
        rw [if_pos ⟨by omega, by omega, rfl, by omega⟩, Int.toNat_natCast]
      | false => exact Ev.ifn (by simp) (go _ (put_non ha hf hh))
theorem itApply (l : List It) (cs : List Ch) (hb : l.length + cs.length ≤ 4398046511000) : Ev (fun k => item_Apply.f k l cs) (aplS l cs) := by
  unfold item_Apply.f
  refine Ev.bind (itCheck l (by omega)) (Ev.bind (itCheckC cs (by omega)) (Ev.bind (or_ck _ _) ?_))
  unfold aplS
  by_cases h : (okL l && okC cs) = true
  · rw [h, if_pos rfl]
    rw [Bool.and_eq_true] at h
    refine Ev.ifp rfl (Ev.bindc (show slices_Clone_api_Item_api_Item.f l = some l by unfold slices_Clone_api_Item_api_Item.f; rw [if_pos (by omega)]) ?_)
    exact apl_l0 cs (by omega) cs.length 0 (by omega) l h.1 (by simpa using h.2) hb
  · have h' : (okL l && okC cs) = false := by simpa using h
    rw [h']
    exact Ev.ifn (by decide) (Ev.const rfl)
-- Diff
def diffS (a b : List It) : List Ch × Int := if (okL a && okL b) = true then (diffL a b, 0) else ([], 4)
theorem diff_l0 : ∀ m (a b : List It), a.length + b.length ≤ m → ∀ out : List Ch, out.length + m ≤ 3518437208883 → Ev (fun k => item_Diff.l0 k a b out) (out ++ diffL a b, 0) := by
  intro m
  induction m with
  | zero =>
    intro a b hm out hb
    obtain rfl : a = [] := List.eq_nil_of_length_eq_zero (by omega)
    obtain rfl : b = [] := List.eq_nil_of_length_eq_zero (by omega)
    refine Ev.step (fun k => by rw [item_Diff.l0]) (Ev.ifn (by rw [w64 (by simp) (by simp)]; simp) (Ev.const ?_))
    rw [diffL]; simp
  | succ m ih =>
    intro a b hm out hb
    -- the ways on
    have add : ∀ (a' : List It) (y : It) (b' : List It), a'.length + b'.length ≤ m → Ev (fun k => item_Diff.l0 k a' b' (out ++ [ad y])) (out ++ (ad y :: diffL a' b'), 0) := fun a' y b' h => by
      refine Ev.val (ih a' b' h (out ++ [ad y]) (by simp only [List.length_append, List.length_cons, List.length_nil, if_true, Bool.false_eq_true, if_false]; omega)) ?_
      rw [List.append_assoc]; rfl
    have del : ∀ (x : It) (a' b' : List It), a'.length + b'.length ≤ m → Ev (fun k => item_Diff.l0 k a' b' (out ++ [dl x])) (out ++ (dl x :: diffL a' b'), 0) := fun x a' b' h => by
      refine Ev.val (ih a' b' h (out ++ [dl x]) (by simp only [List.length_append, List.length_cons, List.length_nil, if_true, Bool.false_eq_true, if_false]; omega)) ?_
      rw [List.append_assoc]; rfl
    have r0 : ∀ (x : It) (l : List It), rd_T77 (x :: l) 0 = x := fun x l => rfl
    refine Ev.step (fun k => by rw [item_Diff.l0]) ?_
    have hw : wrap64 ((a.length : Int) + (b.length : Int)) = (a.length : Int) + (b.length : Int) := w64 (by omega) (by omega)
    rw [hw]
    cases b with
    | nil =>
      cases a with
      | nil => exact Ev.ifn (by simp) (Ev.const (by rw [diffL]; simp))
      | cons x a =>
        refine Ev.ifp (by simp only [List.length_append, List.length_cons, List.length_nil, if_true, Bool.false_eq_true, if_false]; omega) (Ev.ifp (by simp only [List.length_append, List.length_cons, List.length_nil, if_true, Bool.false_eq_true, if_false]; omega) (Ev.step (fun k => by rw [item_Diff.j1]) (Ev.ifp rfl (Ev.ifp (by simp only [List.length_append, List.length_cons, List.length_nil, if_true, Bool.false_eq_true, if_false]; omega) (Ev.ifp (by omega) (Ev.ifp (by simp only [List.length_append, List.length_cons, List.length_nil, if_true, Bool.false_eq_true, if_false]; omega) ?_))))))
        simp only [List.length_cons, List.length_nil] at hm
        refine Ev.val (del x a [] (by simp only [List.length_append, List.length_cons, List.length_nil, if_true, Bool.false_eq_true, if_false]; omega)) ?_
        rw [diffL, diffL]; rfl
    | cons y b =>
      cases a with
      | nil =>
        refine Ev.ifp (by simp only [List.length_append, List.length_cons, List.length_nil, if_true, Bool.false_eq_true, if_false]; omega) (Ev.ifn (by simp only [List.length_append, List.length_cons, List.length_nil, if_true, Bool.false_eq_true, if_false]; omega) (Ev.ifn (by simp) (Ev.step (fun k => by rw [item_Diff.j1]) (Ev.ifn (by simp) (Ev.ifn (by simp) (Ev.step (fun k => by rw [item_Diff.j2]) (Ev.ifn (by simp) (Ev.ifn (by simp) (Ev.ifp (by simp only [List.length_append, List.length_cons, List.length_nil, if_true, Bool.false_eq_true, if_false]; omega) (Ev.ifp (by omega) (Ev.ifp (by simp only [List.length_append, List.length_cons, List.length_nil, if_true, Bool.false_eq_true, if_false]; omega) ?_)))))))))))
        simp only [List.length_cons, List.length_nil] at hm
        refine Ev.val (add [] y b (by simp only [List.length_append, List.length_cons, List.length_nil, if_true, Bool.false_eq_true, if_false]; omega)) ?_
        rw [diffL]
      | cons x a =>
        simp only [List.length_cons] at hm
        refine Ev.ifp (by simp only [List.length_append, List.length_cons, List.length_nil, if_true, Bool.false_eq_true, if_false]; omega) (Ev.ifn (by simp only [List.length_append, List.length_cons, List.length_nil, if_true, Bool.false_eq_true, if_false]; omega) (Ev.ifp (by simp only [List.length_append, List.length_cons, List.length_nil, if_true, Bool.false_eq_true, if_false]; omega) (Ev.ifp (by simp only [List.length_append, List.length_cons, List.length_nil, if_true, Bool.false_eq_true, if_false]; omega) (Ev.ifp (by simp only [List.length_append, List.length_cons, List.length_nil, if_true, Bool.false_eq_true, if_false]; omega) (Ev.step (fun k => by rw [item_Diff.j1]) ?_)))))
        rw [r0, r0, diffL]
        refine Ev.ite (fun h => ?_) (fun h => ?_)
        · rw [if_pos h]
          exact Ev.ifp (by simp only [List.length_append, List.length_cons, List.length_nil, if_true, Bool.false_eq_true, if_false]; omega) (Ev.ifp (by omega) (Ev.ifp (by simp only [List.length_append, List.length_cons, List.length_nil, if_true, Bool.false_eq_true, if_false]; omega) (del x a (y :: b) (by simp only [List.length_append, List.length_cons, List.length_nil, if_true, Bool.false_eq_true, if_false]; omega))))
        · rw [if_neg h]
          refine Ev.ifp (by simp only [List.length_append, List.length_cons, List.length_nil, if_true, Bool.false_eq_true, if_false]; omega) (Ev.ifp (by simp only [List.length_append, List.length_cons, List.length_nil, if_true, Bool.false_eq_true, if_false]; omega) (Ev.ifp (by simp only [List.length_append, List.length_cons, List.length_nil, if_true, Bool.false_eq_true, if_false]; omega) (Ev.step (fun k => by rw [item_Diff.j2]) ?_)))
          by_cases hk : key x = key y
          · by_cases hv : x.f1.toList = y.f1.toList
            · rw [if_pos hk, if_pos hv]
              refine Ev.ifp (by simp [hk, hv]) (Ev.ifp (by simp only [List.length_append, List.length_cons, List.length_nil, if_true, Bool.false_eq_true, if_false]; omega) (Ev.ifp (by simp only [List.length_append, List.length_cons, List.length_nil, if_true, Bool.false_eq_true, if_false]; omega) ?_))
              exact ih a b (by omega) out (by omega)
            · rw [if_pos hk, if_neg hv]
              exact Ev.ifn (by simp [hv]) (Ev.ifp (by simp only [List.length_append, List.length_cons, List.length_nil, if_true, Bool.false_eq_true, if_false]; omega) (Ev.ifp (by simp only [List.length_append, List.length_cons, List.length_nil, if_true, Bool.false_eq_true, if_false]; omega) (Ev.ifp (by simp only [List.length_append, List.length_cons, List.length_nil, if_true, Bool.false_eq_true, if_false]; omega) (Ev.ifp hk (Ev.ifp (by simp only [List.length_append, List.length_cons, List.length_nil, if_true, Bool.false_eq_true, if_false]; omega) (Ev.ifp (by omega) (Ev.ifp (by simp only [List.length_append, List.length_cons, List.length_nil, if_true, Bool.false_eq_true, if_false]; omega) (add a y b (by omega)))))))))
          · rw [if_neg hk]
            exact Ev.ifn (by simp [hk]) (Ev.ifp (by simp only [List.length_append, List.length_cons, List.length_nil, if_true, Bool.false_eq_true, if_false]; omega) (Ev.ifp (by simp only [List.length_append, List.length_cons, List.length_nil, if_true, Bool.false_eq_true, if_false]; omega) (Ev.ifp (by simp only [List.length_append, List.length_cons, List.length_nil, if_true, Bool.false_eq_true, if_false]; omega) (Ev.ifn hk (Ev.ifp (by omega) (Ev.ifp (by simp only [List.length_append, List.length_cons, List.length_nil, if_true, Bool.false_eq_true, if_false]; omega) (add (x :: a) y b (by simp only [List.length_append, List.length_cons, List.length_nil, if_true, Bool.false_eq_true, if_false]; omega))))))))
theorem itDiff (a b : List It) (hb : a.length + b.length ≤ 3518437208883) : Ev (fun k => item_Diff.f k a b) (diffS a b) := by
  unfold item_Diff.f
  refine Ev.bind (itCheck a (by omega)) (Ev.bind (itCheck b (by omega)) (Ev.bind (or_ck _ _) ?_))
  unfold diffS
  by_cases h : (okL a && okL b) = true
  · rw [h, if_pos rfl]
    exact Ev.ifp rfl (Ev.val (diff_l0 _ a b (Nat.le_refl _) [] (by simpa using hb)) (by simp))
  · have h' : (okL a && okL b) = false := by simpa using h
    rw [h']
    exact Ev.ifn (by decide) (Ev.const rfl)
end Go.Proofs.YtfkofbabeghgkaaGreat.Z
end

section
namespace Go.Proofs.YtfkofbabeghgkaaGreat.PM
def ba (l : List UInt8) : ByteArray := ⟨l.toArray⟩
theorem ba_data (l : List UInt8) : (ba l).data.toList = l := by simp [ba]
theorem ba_toList (l : List UInt8) : (ba l).toList = l := by rw [ByteArray.toList_eq]; exact ba_data l
theorem ba_size (l : List UInt8) : (ba l).size = l.length := by simp [ba, ByteArray.size]
theorem data_ba (s : ByteArray) : ba s.data.toList = s := by cases s; simp [ba]
theorem ba_app (a b : List UInt8) : ba a ++ ba b = ba (a ++ b) := by
  have h : (ba a ++ ba b).data.toList = (ba (a ++ b)).data.toList := by rw [Go.Joins.data_append, ba_data, ba_data, ba_data]
  rw [← data_ba (ba a ++ ba b), h, data_ba]
def nameL (l : List UInt8) : Bool := decide (l ≠ [] ∧ l.length ≤ 24 ∧ 47 ∉ l ∧ 0 ∉ l ∧ l ≠ [46] ∧ l ≠ [46, 46])
theorem nameL_iff {l : List UInt8} : nameL l = true ↔ (l ≠ [] ∧ l.length ≤ 24 ∧ 47 ∉ l ∧ 0 ∉ l ∧ l ≠ [46] ∧ l ≠ [46, 46]) := by simp [nameL]
end Go.Proofs.YtfkofbabeghgkaaGreat.PM
end

section
namespace Go.Proofs.YtfkofbabeghgkaaGreat.PM
open Go
def be : Nat → Nat → List UInt8
  | 0, _ => []
  | w + 1, n => be w (n / 256) ++ [UInt8.ofNat (n % 256)]
theorem be_len : ∀ w n, (be w n).length = w
  | 0, _ => rfl
  | w + 1, n => by rw [be, List.length_append, be_len w]; rfl
theorem be_cons : ∀ w n, be (w + 1) n = UInt8.ofNat (n / 256 ^ w % 256) :: be w n
  | 0, n => by simp [be]
  | w + 1, n => by
    have h := be_cons w (n / 256)
    rw [be, h, be, List.cons_append, Nat.div_div_eq_div_mul, ← Nat.pow_succ']
def num (l : List UInt8) : Nat := l.foldl (fun a b => a * 256 + b.toNat) 0
theorem num_snoc (l : List UInt8) (b : UInt8) : num (l ++ [b]) = num l * 256 + b.toNat := by simp [num]
theorem ofNat_toNat (n : Nat) : (UInt8.ofNat (n % 256)).toNat = n % 256 := by simp
theorem num_be : ∀ w n, n < 256 ^ w → num (be w n) = n
  | 0, n, h => by
    have : n = 0 := by simpa using h
    subst this
    rfl
  | w + 1, n, h => by
    rw [be, num_snoc, num_be w (n / 256) (by rw [Nat.pow_succ] at h; omega), ofNat_toNat]
    omega
theorem num_lt : ∀ (k : Nat) (l : List UInt8), l.length = k → num l < 256 ^ k
  | 0, l, h => by rw [List.length_eq_zero_iff.1 h]; exact Nat.one_pos
  | k + 1, l, h => by
    obtain rfl | ⟨l', b, rfl⟩ := List.eq_nil_or_concat l
    · cases h
    · rw [List.concat_eq_append] at h ⊢
      rw [num_snoc, Nat.pow_succ]
      have h1 := num_lt k l' (by simpa using h)
      have h2 := b.toNat_lt
      omega
theorem be_num : ∀ (k : Nat) (l : List UInt8), l.length = k → be k (num l) = l
  | 0, l, h => by rw [List.length_eq_zero_iff.1 h]; rfl
  | k + 1, l, h => by
    obtain rfl | ⟨l', b, rfl⟩ := List.eq_nil_or_concat l
    · cases h
    · rw [List.concat_eq_append] at h ⊢
      have h2 := b.toNat_lt
      rw [num_snoc, be, show (num l' * 256 + b.toNat) / 256 = num l' by omega, show (num l' * 256 + b.toNat) % 256 = b.toNat by omega, be_num k l' (by simpa using h)]
      simp
def okN (k l s : Int) (t : List UInt8) : Bool :=
  decide (k = 1 ∧ l = 1 ∧ s = 0 ∧ t = [] ∨ k = 2 ∧ 0 < l ∧ s ≤ 65536 ∧ t = [] ∨ k = 3 ∧ 0 < l ∧ t ≠ [] ∧ t.length ≤ 64 ∧ 0 ∉ t ∧ s = t.length)
def enc (k m l s : Int) (t : List UInt8) : List UInt8 := be 1 k.toNat ++ (be 2 m.toNat ++ (be 4 l.toNat ++ (be 4 s.toNat ++ (be 2 t.length ++ t))))
def encS (k m l s : Int) (t : List UInt8) : List UInt8 × Int := if okN k l s t = true then (enc k m l s t, 0) else ([], 4)
abbrev Ino := Int × Int × Int × Int × List UInt8 × Int
def d3 (l : List UInt8) : List UInt8 := (l.drop 1).drop 2
def d7 (l : List UInt8) : List UInt8 := (d3 l).drop 4
def d11 (l : List UInt8) : List UInt8 := (d7 l).drop 4
def d13 (l : List UInt8) : List UInt8 := (d11 l).drop 2
def f1 (l : List UInt8) : Int := num (l.take 1)
def f2 (l : List UInt8) : Int := num ((l.drop 1).take 2)
def f3 (l : List UInt8) : Int := num ((d3 l).take 4)
def f4 (l : List UInt8) : Int := num ((d7 l).take 4)
def whole (l : List UInt8) : Prop := 13 ≤ l.length ∧ l.length = 13 + num ((d11 l).take 2)
instance (l : List UInt8) : Decidable (whole l) := by unfold whole; infer_instance
def decS (l : List UInt8) : Ino := if whole l ∧ okN (f1 l) (f3 l) (f4 l) (d13 l) = true then (f1 l, f2 l, f3 l, f4 l, d13 l, 0) else (0, 0, 0, 0, [], 4)
theorem p1 : 256 ^ 1 = 256 := rfl
theorem p2 : 256 ^ 2 = 65536 := rfl
theorem p4 : 256 ^ 4 = 4294967296 := rfl
theorem f_range (l : List UInt8) (h : whole l) : (0 ≤ f1 l ∧ f1 l < 256) ∧ (0 ≤ f2 l ∧ f2 l < 65536) ∧ (0 ≤ f3 l ∧ f3 l < 4294967296) ∧ (0 ≤ f4 l ∧ f4 l < 4294967296) := by
  obtain ⟨h1, h2⟩ := h
  have l3 : (d3 l).length = l.length - 3 := by unfold d3; simp only [List.length_drop]; omega
  have l7 : (d7 l).length = l.length - 7 := by unfold d7; rw [List.length_drop, l3]; omega
  have a1 := num_lt 1 (l.take 1) (by rw [List.length_take]; omega)
  have a2 := num_lt 2 ((l.drop 1).take 2) (by rw [List.length_take, List.length_drop]; omega)
  have a3 := num_lt 4 ((d3 l).take 4) (by rw [List.length_take]; omega)
  have a4 := num_lt 4 ((d7 l).take 4) (by rw [List.length_take]; omega)
  rw [p1] at a1
  rw [p2] at a2
  rw [p4] at a3 a4
  unfold f1 f2 f3 f4
  omega
def lett (k : Int) : List UInt8 := if k = 1 then [105] else if k = 2 then [100] else if k = 3 then [99] else if k = 4 then [120] else []
def prefL (k i : Int) : List UInt8 := if lett k = [] then [] else lett k ++ be 4 i.toNat
def rightK (k i : Int) (nm : List UInt8) (c : Int) : Bool :=
  decide (0 < i ∧ (k = 1 ∧ nm = [] ∧ c = 0 ∨ (k = 2 ∨ k = 4) ∧ nameL nm = true ∧ c = 0 ∨ k = 3 ∧ nm = [] ∧ c < 512))
def keyL (k i : Int) (nm : List UInt8) (c : Int) : List UInt8 := prefL k i ++ (if k = 3 then be 4 c.toNat else nm)
def keyS (k i : Int) (nm : List UInt8) (c : Int) : List UInt8 × Int := if rightK k i nm c = true then (keyL k i nm c, 0) else ([], 4)
def kindOf (b : UInt8) : Int := if b = 105 then 1 else if b = 100 then 2 else if b = 99 then 3 else if b = 120 then 4 else 0
abbrev KeyT := Int × Int × List UInt8 × Int × Int
def g1 (l : List UInt8) : Int := kindOf (l.headD 0)
def g2 (l : List UInt8) : Int := num ((l.drop 1).take 4)
def r5 (l : List UInt8) : List UInt8 := (l.drop 1).drop 4
def parsS (l : List UInt8) : KeyT :=
  if l.length < 5 then (0, 0, [], 0, 4)
  else if g1 l = 3 then if (r5 l).length = 4 ∧ rightK 3 (g2 l) [] (num (r5 l)) = true then (3, g2 l, [], num (r5 l), 0) else (0, 0, [], 0, 4)
  else if rightK (g1 l) (g2 l) (r5 l) 0 = true then (g1 l, g2 l, r5 l, 0, 0) else (0, 0, [], 0, 4)
theorem lett_one {k : Int} (h : lett k ≠ []) : ∃ b, lett k = [b] ∧ kindOf b = k := by
  unfold lett at *
  by_cases h1 : k = 1
  · subst h1; exact ⟨105, rfl, rfl⟩
  · by_cases h2 : k = 2
    · subst h2; exact ⟨100, rfl, rfl⟩
    · by_cases h3 : k = 3
      · subst h3; exact ⟨99, rfl, rfl⟩
      · by_cases h4 : k = 4
        · subst h4; exact ⟨120, rfl, rfl⟩
        · rw [if_neg h1, if_neg h2, if_neg h3, if_neg h4] at h
          exact absurd rfl h
theorem lett_ne {k i : Int} {nm : List UInt8} {c : Int} (h : rightK k i nm c = true) : lett k ≠ [] := by
  unfold rightK at h
  have h := (of_decide_eq_true h).2
  unfold lett
  rcases h with h | h | h
  · rw [if_pos h.1]; simp
  · rcases h.1 with h | h <;> subst h <;> decide
  · rw [h.1]; decide
theorem prefL_len {k i : Int} (h : lett k ≠ []) : (prefL k i).length = 5 := by
  obtain ⟨b, hb, _⟩ := lett_one h
  unfold prefL
  rw [if_neg h, hb, List.length_append, be_len]
  rfl
theorem kind_lett {b : UInt8} (h : kindOf b ≠ 0) : lett (kindOf b) = [b] := by
  unfold kindOf at *
  by_cases h1 : b = 105
  · subst h1; rfl
  · by_cases h2 : b = 100
    · subst h2; rfl
    · by_cases h3 : b = 99
      · subst h3; rfl
      · by_cases h4 : b = 120
        · subst h4; rfl
        · rw [if_neg h1, if_neg h2, if_neg h3, if_neg h4] at h
          exact absurd rfl h
theorem key_whole {l : List UInt8} (h5 : ¬ l.length < 5) (hk : g1 l ≠ 0) : prefL (g1 l) (g2 l) ++ r5 l = l := by
  match l, h5 with
  | b :: r, h5 =>
    have hk : kindOf b ≠ 0 := hk
    have e : lett (g1 (b :: r)) = [b] := kind_lett hk
    have hr : 4 ≤ r.length := by simp at h5; omega
    unfold prefL
    rw [e, if_neg (by simp)]
    unfold g2 r5
    rw [List.drop_one, List.tail_cons, Int.toNat_natCast, be_num 4 _ (by rw [List.length_take]; omega)]
    simp
  | [], h5 => exact absurd (by decide) h5
theorem g2_range {l : List UInt8} (h5 : ¬ l.length < 5) : 0 ≤ g2 l ∧ g2 l < 4294967296 := by
  have a := num_lt 4 ((l.drop 1).take 4) (by rw [List.length_take, List.length_drop]; omega)
  rw [p4] at a
  unfold g2
  omega
theorem right_kind {k i : Int} {nm : List UInt8} {c : Int} (h : rightK k i nm c = true) : k ≠ 0 := by
  unfold rightK at h
  have h := (of_decide_eq_true h).2
  omega
theorem key_pars {l : List UInt8} {k i : Int} {nm : List UInt8} {c e : Int} (h : parsS l = (k, i, nm, c, e)) (he : e = 0) :
    rightK k i nm c = true ∧ keyL k i nm c = l ∧ (0 ≤ i ∧ i < 4294967296) ∧ 0 ≤ c := by
  subst he
  unfold parsS at h
  by_cases h5 : l.length < 5
  · rw [if_pos h5] at h; simp at h
  · rw [if_neg h5] at h
    by_cases h3 : g1 l = 3
    · rw [if_pos h3] at h
      by_cases hr : (r5 l).length = 4 ∧ rightK 3 (g2 l) [] (num (r5 l)) = true
      · rw [if_pos hr] at h
        simp only [Prod.mk.injEq] at h
        obtain ⟨rfl, rfl, rfl, rfl, _⟩ := h
        have hw := key_whole h5 (by rw [h3]; decide)
        refine ⟨hr.2, ?_, g2_range h5, by omega⟩
        unfold keyL
        rw [if_pos rfl, Int.toNat_natCast, be_num 4 _ hr.1]
        rw [h3] at hw
        exact hw
      · rw [if_neg hr] at h; simp at h
    · rw [if_neg h3] at h
      by_cases hr : rightK (g1 l) (g2 l) (r5 l) 0 = true
      · rw [if_pos hr] at h
        simp only [Prod.mk.injEq] at h
        obtain ⟨rfl, rfl, rfl, rfl, _⟩ := h
        refine ⟨hr, ?_, g2_range h5, by omega⟩
        unfold keyL
        rw [if_neg h3]
        exact key_whole h5 (right_kind hr)
      · rw [if_neg hr] at h; simp at h
end Go.Proofs.YtfkofbabeghgkaaGreat.PM
end

section
namespace Go.Proofs.YtfkofbabeghgkaaGreat.Z
open Go.Proofs.YtfkofbabeghgkaaGreat.PM
theorem index_mem (l : List UInt8) (c : UInt8) : 0 ≤ Lib.indexByte l c ↔ c ∈ l := by
  induction l with
  | nil => simp [Lib.indexByte]
  | cons b l ih =>
    unfold Lib.indexByte
    by_cases hb : b = c
    · subst hb; simp
    · have hb2 : (b == c) = false := by simpa using hb
      rw [hb2]
      by_cases h1 : Lib.indexByte l c = -1
      · have hn : c ∉ l := fun hm => by have := ih.2 hm; omega
        simp [h1, hn, Ne.symm hb]
      · have := Lib.indexByte_ge l c
        have hm : c ∈ l := ih.1 (by omega)
        have h2 : (Lib.indexByte l c == -1) = false := by simpa using h1
        simp [h2, hm]; omega
theorem bt_get (s : ByteArray) (i : Nat) (h : i < s.data.toList.length) : bt s (i : Int) = ((s.data.toList[i]).toNat : Int) := by
  have hs : i < s.size := by rw [Array.length_toList] at h; exact h
  unfold bt
  rw [dif_pos (by simpa using hs)]
  simp only [Int.toNat_natCast, Array.getElem_toList]
  rfl
theorem byte_eq (x : UInt8) (n : Nat) (hn : n < 256) : ((x.toNat : Int) = n) ↔ x = n.toUInt8 := by
  constructor
  · intro h
    have : x.toNat = n := by omega
    rw [← UInt8.toNat_inj]
    simp [this]; omega
  · intro h; subst h; simp; omega
theorem size_len (a : ByteArray) : a.size = a.data.toList.length := by rw [Array.length_toList]; rfl
end Go.Proofs.YtfkofbabeghgkaaGreat.Z
end

section
namespace Go.Proofs.YtfkofbabeghgkaaGreat.Z
open Go.Proofs.YtfkofbabeghgkaaGreat.PM
theorem contains_f (a : ByteArray) (c : UInt8) : strings_Contains.f a ⟨#[c]⟩ = some (decide (c ∈ a.data.toList)) := by
  unfold strings_Contains.f
  rw [dif_pos (by rfl)]
  have hi := index_mem a.data.toList c
  exact congrArg some (by rw [Bool.eq_iff_iff]; simpa using hi)
theorem name_f (a : ByteArray) : path_Name.f a = some (nameL a.data.toList) := by
  unfold path_Name.f nameL
  rw [ByteArray.toList_eq, contains_f, contains_f]
  have hz := size_len a
  by_cases h1 : a.data.toList = []
  · simp [h1]
  · rw [if_neg h1]
    by_cases h2 : (a.size : Int) ≤ 24
    · rw [if_pos h2]
      have h2' : a.data.toList.length ≤ 24 := by omega
      by_cases h3 : 47 ∈ a.data.toList <;> by_cases h4 : 0 ∈ a.data.toList <;> simp [h1, h3, h4]
      by_cases h5 : a.data.toList = [46]
      · have h2d : decide (a.size ≤ 24) = true := by simp; omega
        by_cases h6 : a.data.toList = [46, 46]
        · simp [h6]
        · simp [h5, h6, h2d]
      · have h2d : decide (a.size ≤ 24) = true := by simp; omega
        by_cases h6 : a.data.toList = [46, 46]
        · simp [h6]
        · simp [h5, h6, h2d]
    · rw [if_neg h2, show decide (a.data.toList ≠ [] ∧ a.data.toList.length ≤ 24 ∧ 47 ∉ a.data.toList ∧ 0 ∉ a.data.toList ∧ a.data.toList ≠ [46] ∧ a.data.toList ≠ [46, 46]) = false by simp; omega]
end Go.Proofs.YtfkofbabeghgkaaGreat.Z
end

section
namespace Go.Proofs.YtfkofbabeghgkaaGreat.Z
attribute [local go_sem] max2_int min2_int max_two min_two max_three min_three max_four min_four   -- for this text's walks alone
def pack_Text.f (k : Nat) (a0 : ByteArray) : Option (ByteArray × Int) := (pack_Number.f k (IntKind.u64.wrap ((a0.size : Int))) 2).bind fun bt279 => (if bt279.2 = 0 then (if bt279.1.size + a0.size ≤ 9223372036854775807 then (some (bt279.1 ++ a0, 0)) else (none)) else (some ((⟨#[]⟩ : ByteArray), 2)))
theorem pack_Text.mono : ∀ a0 k, LeO (pack_Text.f k a0) (pack_Text.f (k + 1) a0) := by
 intro a0 k
 unfold pack_Text.f
 repeat' first
   | (with_reducible exact pack_Number.mono _ _ _)
   | (with_reducible exact LeO.refl _)
   | (with_reducible exact LeO.none _)
   | (with_reducible refine LeO.ite ?_ ?_)
   | (with_reducible refine LeO.bind ?_ (fun _ => ?_))
   | exact pack_Number.mono _ _ _
   | exact LeO.none _
   | refine LeO.ite ?_ ?_
   | refine LeO.bind ?_ (fun _ => ?_)
set_option maxHeartbeats 8000000 in
set_option maxRecDepth 100000 in
theorem pack_Text.calls (k : Nat) (a0 : ByteArray) (r1 : ByteArray) (r2 : Int) (w : World) (h : pack_Text.f k a0 = some (r1, r2)) :
  Calls Tryz.prog 51 #[.string a0] w fun e w' => e = .returned (.tuple #[.string r1, .int .i64 r2]) ∧ Below w.heap.size w w' := by
 have HB := ak_ (Below.refl w.heap.size w)
 have H : ((pack_Number.f k (IntKind.u64.wrap ((a0.size : Int))) 2).bind fun bt279 => (if bt279.2 = 0 then (if bt279.1.size + a0.size ≤ 9223372036854775807 then (some (bt279.1 ++ a0, 0)) else (none)) else (some ((⟨#[]⟩ : ByteArray), 2)))) = some (r1, r2) := h
 clear h
 replace H := Option.bind_eq_some_iff.mp H
 obtain ⟨⟨t279, t280⟩, A20, H⟩ := H
 replace H : (if t280 = 0 then (if t279.size + a0.size ≤ 9223372036854775807 then (some (t279 ++ a0, 0)) else (none)) else (some ((⟨#[]⟩ : ByteArray), 2))) = some (r1, r2) := H
 have A2 := ak_ A20
 clear A20
 by_cases c3 : t280 = 0
 ·rw [if_pos c3] at H
  have c3b0 : (t280 == 0) = true := beq_iff_eq.mpr c3
  have c3b1 : (t280 != 0) = false := bne_eq_false_iff_eq.mpr c3
  clear c3
  by_cases c4 : t279.size + a0.size ≤ 9223372036854775807
  ·rw [if_pos c4] at H
   have c4b0 := eq_true c4
   have c4b1 : decide (t279.size + a0.size ≤ 9223372036854775807) = true := decide_eq_true c4
   try have c4b2 : (9223372036854775807 < t279.size + a0.size) = False := eq_false (Nat.not_lt.2 c4)
   simp only [Option.some.injEq, Prod.mk.injEq] at H
   obtain ⟨rfl, rfl⟩ := H
   go_enter Tryz.func51, Tryz.ntmps51
   go_wp2_with (first | ((with_reducible refine gate_callee (f := 50) rfl ?_); refine goesL_ (some 10) rfl rfl Tryz.func50 (by kernel_rfl) rfl #[.int .u64 (IntKind.u64.wrap ((a0.size : Int))), .int .i64 2] rfl (by (try simp only [List.map_toArray, List.map_cons, List.map_nil]); first | done | rfl | (rw [show IntKind.u64.wrap ((a0.size : Int)) = ((a0.size : Int)) from IntWalk.u64_in _ (by simp only [decide_eq_false_iff_not, decide_eq_true_eq] at *; omega)]; rfl) | (simp only [List.length_drop, List.length_take]; rfl)) ?_; (with_reducible refine (pack_Number.calls k (IntKind.u64.wrap ((a0.size : Int))) 2 t279 t280 _ A2.out).mono ?_); rintro e w5 ⟨rfl, hb⟩; refine ⟨_, rfl, ?_⟩; replace HB := hb_ hb; (try clear hb); (try clear hb2); (try clear hk); (try clear hi)))
   go_ret2
   exact ⟨by first | rfl | (simp [errW_none, errW_some] <;> rfl) | (simp [*, errW_none, errW_some] <;> rfl), bel_⟩
  rw [if_neg c4] at H
  exact absurd H (by simp)
 rw [if_neg c3] at H
 have c3b0 : (t280 == 0) = false := beq_eq_false_iff_ne.mpr c3
 have c3b1 : (t280 != 0) = true := bne_iff_ne.mpr c3
 simp only [Option.some.injEq, Prod.mk.injEq] at H
 obtain ⟨rfl, rfl⟩ := H
 go_enter Tryz.func51, Tryz.ntmps51
 go_wp2_with (first | ((with_reducible refine gate_callee (f := 50) rfl ?_); refine goesL_ (some 10) rfl rfl Tryz.func50 (by kernel_rfl) rfl #[.int .u64 (IntKind.u64.wrap ((a0.size : Int))), .int .i64 2] rfl (by (try simp only [List.map_toArray, List.map_cons, List.map_nil]); first | done | rfl | (rw [show IntKind.u64.wrap ((a0.size : Int)) = ((a0.size : Int)) from IntWalk.u64_in _ (by simp only [decide_eq_false_iff_not, decide_eq_true_eq] at *; omega)]; rfl) | (simp only [List.length_drop, List.length_take]; rfl)) ?_; (with_reducible refine (pack_Number.calls k (IntKind.u64.wrap ((a0.size : Int))) 2 t279 t280 _ A2.out).mono ?_); rintro e w6 ⟨rfl, hb⟩; refine ⟨_, rfl, ?_⟩; replace HB := hb_ hb; (try clear hb); (try clear hb2); (try clear hk); (try clear hi)))
 go_ret2
 exact ⟨by first | rfl | (simp [errW_none, errW_some] <;> rfl) | (simp [*, errW_none, errW_some] <;> rfl), bel_⟩
def inode_Encode.f (k : Nat) (a0_0 : Int) (a0_1 : Int) (a0_2 : Int) (a0_3 : Int) (a0_4 : ByteArray) : Option (ByteArray × Int) := (inode_Check.f a0_0 a0_1 a0_2 a0_3 a0_4).bind fun t290 => (if t290 = 0 then ((pack_Text.f k a0_4).bind fun bt291 => ((inode_number.f k (IntKind.u64.wrap (a0_0)) 1).bind fun t293 => ((inode_number.f k (IntKind.u64.wrap (a0_1)) 2).bind fun t294 => (if t293.size + t294.size ≤ 9223372036854775807 then ((inode_number.f k (IntKind.u64.wrap (a0_2)) 4).bind fun t295 => (if (t293 ++ t294).size + t295.size ≤ 9223372036854775807 then ((inode_number.f k (IntKind.u64.wrap (a0_3)) 4).bind fun t296 => (if ((t293 ++ t294) ++ t295).size + t296.size ≤ 9223372036854775807 then (if (((t293 ++ t294) ++ t295) ++ t296).size + bt291.1.size ≤ 9223372036854775807 then (some ((((t293 ++ t294) ++ t295) ++ t296) ++ bt291.1, 0)) else (none)) else (none))) else (none))) else (none))))) else (some ((⟨#[]⟩ : ByteArray), t290)))
theorem inode_Encode.mono : ∀ a0 a1 a2 a3 a4 k, LeO (inode_Encode.f k a0 a1 a2 a3 a4) (inode_Encode.f (k + 1) a0 a1 a2 a3 a4) := by
 intro a0 a1 a2 a3 a4 k
 unfold inode_Encode.f
 repeat' first
   | (with_reducible exact inode_number.mono _ _ _)
   | (with_reducible exact pack_Text.mono _ _)
   | (with_reducible exact LeO.refl _)
   | (with_reducible exact LeO.none _)
   | (with_reducible refine LeO.ite ?_ ?_)
   | (with_reducible refine LeO.bind ?_ (fun _ => ?_))
   | exact inode_number.mono _ _ _
   | exact pack_Text.mono _ _
   | exact LeO.none _
   | refine LeO.ite ?_ ?_
   | refine LeO.bind ?_ (fun _ => ?_)
def inode_Encode.T5 : Bool × List (List Nat × List Nat) := (true, [([], []), ([0], [0]), ([1], [1]), ([2], [2]), ([], []), ([4], [4]), ([5], [5]), ([6, 3], [6]), ([3, 7], [3, 7]), ([], []), ([9], [9]), ([10], [10]), ([11, 7], [11]), ([8, 12], [8, 12]), ([], []), ([14], [14]), ([15], [15]), ([16, 12], [16]), ([13, 17], [13, 17]), ([], []), ([18, 19], [18, 19]), ([20, 17, 0, 1, 2, 3, 4, 5, 6, 7, 8, 9, 10, 11, 12, 13, 14, 15, 16, 17, 18, 19, 20], [20]), ([21, 0, 1, 2, 3, 4, 5, 6, 7, 8, 9, 10, 11, 12, 13, 14, 15, 16, 17, 18, 19, 20, 21], [])])
def inode_Encode.B5 : List Nat := [0, 1, 3, 7, 0, 16, 48, 127, 255, 0, 512, 1536, 3839, 8191, 0, 16384, 49152, 122623, 262143, 0, 1048575, 2097151, 4194303]
theorem inode_Encode.tab5 : rtab .any (opsOf Tryz.f78 5) = inode_Encode.T5 := by kernel_rfl
theorem inode_Encode.bits5 : waitsOk inode_Encode.T5.2 inode_Encode.B5 = true := by kernel_rfl
set_option maxHeartbeats 8000000 in
set_option maxRecDepth 100000 in
theorem inode_Encode.calls (k : Nat) (a0_0 : Int) (a0_1 : Int) (a0_2 : Int) (a0_3 : Int) (a0_4 : ByteArray) (r1 : ByteArray) (r2 : Int) (w : World) (h : inode_Encode.f k a0_0 a0_1 a0_2 a0_3 a0_4 = some (r1, r2)) :
  Calls Tryz.prog 78 #[.agg #[.int .u8 a0_0, .int .u16 a0_1, .int .u32 a0_2, .int .u32 a0_3, .string a0_4]] w fun e w' => e = .returned (.tuple #[.string r1, .int .i64 r2]) ∧ Below w.heap.size w w' := by
 have hu100 := Tryz.underlying100
 have HB := ak_ (Below.refl w.heap.size w)
 have H : ((inode_Check.f a0_0 a0_1 a0_2 a0_3 a0_4).bind fun t290 => (if t290 = 0 then ((pack_Text.f k a0_4).bind fun bt291 => ((inode_number.f k (IntKind.u64.wrap (a0_0)) 1).bind fun t293 => ((inode_number.f k (IntKind.u64.wrap (a0_1)) 2).bind fun t294 => (if t293.size + t294.size ≤ 9223372036854775807 then ((inode_number.f k (IntKind.u64.wrap (a0_2)) 4).bind fun t295 => (if (t293 ++ t294).size + t295.size ≤ 9223372036854775807 then ((inode_number.f k (IntKind.u64.wrap (a0_3)) 4).bind fun t296 => (if ((t293 ++ t294) ++ t295).size + t296.size ≤ 9223372036854775807 then (if (((t293 ++ t294) ++ t295) ++ t296).size + bt291.1.size ≤ 9223372036854775807 then (some ((((t293 ++ t294) ++ t295) ++ t296) ++ bt291.1, 0)) else (none)) else (none))) else (none))) else (none))))) else (some ((⟨#[]⟩ : ByteArray), t290)))) = some (r1, r2) := h
 clear h
 replace H := Option.bind_eq_some_iff.mp H
 obtain ⟨t290, A20, H⟩ := H
 replace H : (if t290 = 0 then ((pack_Text.f k a0_4).bind fun bt291 => ((inode_number.f k (IntKind.u64.wrap (a0_0)) 1).bind fun t293 => ((inode_number.f k (IntKind.u64.wrap (a0_1)) 2).bind fun t294 => (if t293.size + t294.size ≤ 9223372036854775807 then ((inode_number.f k (IntKind.u64.wrap (a0_2)) 4).bind fun t295 => (if (t293 ++ t294).size + t295.size ≤ 9223372036854775807 then ((inode_number.f k (IntKind.u64.wrap (a0_3)) 4).bind fun t296 => (if ((t293 ++ t294) ++ t295).size + t296.size ≤ 9223372036854775807 then (if (((t293 ++ t294) ++ t295) ++ t296).size + bt291.1.size ≤ 9223372036854775807 then (some ((((t293 ++ t294) ++ t295) ++ t296) ++ bt291.1, 0)) else (none)) else (none))) else (none))) else (none))))) else (some ((⟨#[]⟩ : ByteArray), t290))) = some (r1, r2) := H
 have A2 := ak_ A20
 clear A20
 by_cases c3 : t290 = 0
 ·rw [if_pos c3] at H
  have c3b0 : (t290 == 0) = true := beq_iff_eq.mpr c3
  have c3b1 : (t290 != 0) = false := bne_eq_false_iff_eq.mpr c3
  clear c3
  replace H := Option.bind_eq_some_iff.mp H
  obtain ⟨⟨t291, t292⟩, A40, H⟩ := H
  replace H : ((inode_number.f k (IntKind.u64.wrap (a0_0)) 1).bind fun t293 => ((inode_number.f k (IntKind.u64.wrap (a0_1)) 2).bind fun t294 => (if t293.size + t294.size ≤ 9223372036854775807 then ((inode_number.f k (IntKind.u64.wrap (a0_2)) 4).bind fun t295 => (if (t293 ++ t294).size + t295.size ≤ 9223372036854775807 then ((inode_number.f k (IntKind.u64.wrap (a0_3)) 4).bind fun t296 => (if ((t293 ++ t294) ++ t295).size + t296.size ≤ 9223372036854775807 then (if (((t293 ++ t294) ++ t295) ++ t296).size + t291.size ≤ 9223372036854775807 then (some ((((t293 ++ t294) ++ t295) ++ t296) ++ t291, 0)) else (none)) else (none))) else (none))) else (none)))) = some (r1, r2) := H
  have A4 := ak_ A40
  clear A40
  replace H := Option.bind_eq_some_iff.mp H
  obtain ⟨t293, A50, H⟩ := H
  replace H : ((inode_number.f k (IntKind.u64.wrap (a0_1)) 2).bind fun t294 => (if t293.size + t294.size ≤ 9223372036854775807 then ((inode_number.f k (IntKind.u64.wrap (a0_2)) 4).bind fun t295 => (if (t293 ++ t294).size + t295.size ≤ 9223372036854775807 then ((inode_number.f k (IntKind.u64.wrap (a0_3)) 4).bind fun t296 => (if ((t293 ++ t294) ++ t295).size + t296.size ≤ 9223372036854775807 then (if (((t293 ++ t294) ++ t295) ++ t296).size + t291.size ≤ 9223372036854775807 then (some ((((t293 ++ t294) ++ t295) ++ t296) ++ t291, 0)) else (none)) else (none))) else (none))) else (none))) = some (r1, r2) := H
  have A5 := ak_ A50
  clear A50
  replace H := Option.bind_eq_some_iff.mp H
  obtain ⟨t294, A60, H⟩ := H
  replace H : (if t293.size + t294.size ≤ 9223372036854775807 then ((inode_number.f k (IntKind.u64.wrap (a0_2)) 4).bind fun t295 => (if (t293 ++ t294).size + t295.size ≤ 9223372036854775807 then ((inode_number.f k (IntKind.u64.wrap (a0_3)) 4).bind fun t296 => (if ((t293 ++ t294) ++ t295).size + t296.size ≤ 9223372036854775807 then (if (((t293 ++ t294) ++ t295) ++ t296).size + t291.size ≤ 9223372036854775807 then (some ((((t293 ++ t294) ++ t295) ++ t296) ++ t291, 0)) else (none)) else (none))) else (none))) else (none)) = some (r1, r2) := H
  have A6 := ak_ A60
  clear A60
  by_cases c7 : t293.size + t294.size ≤ 9223372036854775807
  ·rw [if_pos c7] at H
   have c7b0 := eq_true c7
   have c7b1 : decide (t293.size + t294.size ≤ 9223372036854775807) = true := decide_eq_true c7
   try have c7b2 : (9223372036854775807 < t293.size + t294.size) = False := eq_false (Nat.not_lt.2 c7)
   replace H := Option.bind_eq_some_iff.mp H
   obtain ⟨t295, A80, H⟩ := H
   replace H : (if (t293 ++ t294).size + t295.size ≤ 9223372036854775807 then ((inode_number.f k (IntKind.u64.wrap (a0_3)) 4).bind fun t296 => (if ((t293 ++ t294) ++ t295).size + t296.size ≤ 9223372036854775807 then (if (((t293 ++ t294) ++ t295) ++ t296).size + t291.size ≤ 9223372036854775807 then (some ((((t293 ++ t294) ++ t295) ++ t296) ++ t291, 0)) else (none)) else (none))) else (none)) = some (r1, r2) := H
   have A8 := ak_ A80
   clear A80
   by_cases c9 : (t293 ++ t294).size + t295.size ≤ 9223372036854775807
   ·rw [if_pos c9] at H
    have c9b0 := eq_true c9
    have c9b1 : decide ((t293 ++ t294).size + t295.size ≤ 9223372036854775807) = true := decide_eq_true c9
    have c9b1x := c9b1
    (try simp only [ByteArray.size_append, Int.natCast_add] at c9b1x)
    try have c9b2 : (9223372036854775807 < (t293 ++ t294).size + t295.size) = False := eq_false (Nat.not_lt.2 c9)
    try have c9b2x := c9b2
    (try simp only [ByteArray.size_append, Int.natCast_add] at c9b2x)
    replace H := Option.bind_eq_some_iff.mp H
    obtain ⟨t296, A100, H⟩ := H
    replace H : (if ((t293 ++ t294) ++ t295).size + t296.size ≤ 9223372036854775807 then (if (((t293 ++ t294) ++ t295) ++ t296).size + t291.size ≤ 9223372036854775807 then (some ((((t293 ++ t294) ++ t295) ++ t296) ++ t291, 0)) else (none)) else (none)) = some (r1, r2) := H
    have A10 := ak_ A100
    clear A100
    by_cases c11 : ((t293 ++ t294) ++ t295).size + t296.size ≤ 9223372036854775807
    ·rw [if_pos c11] at H
     have c11b0 := eq_true c11
     have c11b1 : decide (((t293 ++ t294) ++ t295).size + t296.size ≤ 9223372036854775807) = true := decide_eq_true c11
     have c11b1x := c11b1
     (try simp only [ByteArray.size_append, Int.natCast_add] at c11b1x)
     try have c11b2 : (9223372036854775807 < ((t293 ++ t294) ++ t295).size + t296.size) = False := eq_false (Nat.not_lt.2 c11)
     try have c11b2x := c11b2
     (try simp only [ByteArray.size_append, Int.natCast_add] at c11b2x)
     by_cases c12 : (((t293 ++ t294) ++ t295) ++ t296).size + t291.size ≤ 9223372036854775807
     ·rw [if_pos c12] at H
      have c12b0 := eq_true c12
      have c12b1 : decide ((((t293 ++ t294) ++ t295) ++ t296).size + t291.size ≤ 9223372036854775807) = true := decide_eq_true c12
      have c12b1x := c12b1
      (try simp only [ByteArray.size_append, Int.natCast_add] at c12b1x)
      try have c12b2 : (9223372036854775807 < (((t293 ++ t294) ++ t295) ++ t296).size + t291.size) = False := eq_false (Nat.not_lt.2 c12)
      try have c12b2x := c12b2
      (try simp only [ByteArray.size_append, Int.natCast_add] at c12b2x)
      simp only [Option.some.injEq, Prod.mk.injEq] at H
      obtain ⟨rfl, rfl⟩ := H
      go_enter Tryz.func78, Tryz.ntmps78
      try go_wp2_with (first | ((with_reducible refine gate_dst (N := 1) rfl ?_); refine bx_ (N := 1) (cs := #[.int .u8 a0_0, .int .u16 a0_1, .int .u32 a0_2, .int .u32 a0_3, .string a0_4]) (t := 100) ?_; intro gb289 hg w13 hbox hb; have BK289 := ak_ (hbox); have GW289 := ge_ hg; have GE289 := ge_ hg; replace HB := hb_ hb; clear hb hbox hg; obtain ⟨hcz14_0, hcz14_1, hcz14_2, hcz14_3, hcz14_4⟩ := cl5_ BK289; obtain ⟨hfz14_0, hfz14_1, hfz14_2, hfz14_3, hfz14_4⟩ := fz5_ BK289) | ((with_reducible refine gate_callee (f := 104) rfl ?_); refine gl_ (some 8) Tryz.func104 #[.agg #[.int .u8 a0_0, .int .u16 a0_1, .int .u32 a0_2, .int .u32 a0_3, .string a0_4]] ?_; (with_reducible refine (inode_Check.calls a0_0 a0_1 a0_2 a0_3 a0_4 t290 _ A2.out).mono ?_); rintro e w15 ⟨rfl, hb⟩; refine ⟨_, rfl, ?_⟩; replace BK289 := kb_ BK289 hb; replace HB := hb_ hb; (try clear hb); (try clear hb2); (try clear hk); (try clear hi); obtain ⟨hcz16_0, hcz16_1, hcz16_2, hcz16_3, hcz16_4⟩ := cl5_ BK289; obtain ⟨hfz16_0, hfz16_1, hfz16_2, hfz16_3, hfz16_4⟩ := fz5_ BK289) | ((with_reducible refine gate_callee (f := 51) rfl ?_); refine gl_ (some 15) Tryz.func51 #[.string a0_4] ?_; (with_reducible refine (pack_Text.calls k a0_4 t291 t292 _ A4.out).mono ?_); rintro e w17 ⟨rfl, hb⟩; refine ⟨_, rfl, ?_⟩; replace BK289 := kb_ BK289 hb; replace HB := hb_ hb; (try clear hb); (try clear hb2); (try clear hk); (try clear hi)))
      replace BK289 := ak_ (blk_drew BK289.out)
      replace HB := ak_ (below_drew1 HB.out)
      refine start_ (n := 23) (S := fun w' => w'.cell? ⟨gb289, 0, none⟩ = some (.int .u8 a0_0) ∧ w'.cell? ⟨gb289, 1, none⟩ = some (.int .u16 a0_1) ∧ w'.cell? ⟨gb289, 2, none⟩ = some (.int .u32 a0_2) ∧ w'.cell? ⟨gb289, 3, none⟩ = some (.int .u32 a0_3) ∧ w'.cell? ⟨gb289, 4, none⟩ = some (.string a0_4)) (ds := []) #[false, false, false, false, false, false, false, false, false, false, false, false, false, false, false, false, false, false, false, false, false, false, false] (by kernel_rfl) rfl rfl hc_ (fun hHeld => ?_); refine with_tabW inode_Encode.tab5 inode_Encode.bits5 (fun HT_ HW_ => ?_)
      generalize w17.drew = w18 at BK289 HB hHeld ⊢
      refine pu_ 0 18 ?_
      refine pu_ 4 22 ?_
      refine pu_ 9 27 ?_
      refine pu_ 14 32 ?_
      refine pu_ 19 37 ?_
      refine tk5_ 1 19 ?_
      refine pu_ 2 20 ?_
      refine tk5_ 5 23 ?_
      refine pu_ 6 24 ?_
      refine tk5_ 10 28 ?_
      refine pu_ 11 29 ?_
      refine tk5_ 15 33 ?_
      refine pu_ 16 34 ?_
      refine on_ 3 21 (fun K hK => ?_)
      refine goes_ Tryz.func103 (by kernel_rfl) rfl #[.int .u64 (IntKind.u64.wrap (a0_0)), .int .i64 1] (by rfl) rfl rfl (by (try simp only [List.map_toArray, List.map_cons, List.map_nil]); first | done | rfl | (simp only [List.length_drop, List.length_take]; rfl)) ?_
      with_reducible refine (inode_number.calls k (IntKind.u64.wrap (a0_0)) 1 t293 _ A5.out).mono ?_
      rintro e w19 ⟨rfl, hb⟩
      refine ⟨_, rfl, ?_⟩
      replace BK289 := kb_ BK289 hb
      replace HB := hb_ hb
      (try clear hb)
      (try clear hb2)
      (try clear hk)
      (try clear hi)
      refine hK.out _ _ hc_ (fun hHeld => ?_)
      clear hK K
      refine nm_ 21 ?_
      refine on_ 7 25 (fun K hK => ?_)
      refine goes_ Tryz.func103 (by kernel_rfl) rfl #[.int .u64 (IntKind.u64.wrap (a0_1)), .int .i64 2] (by rfl) rfl rfl (by (try simp only [List.map_toArray, List.map_cons, List.map_nil]); first | done | rfl | (simp only [List.length_drop, List.length_take]; rfl)) ?_
      with_reducible refine (inode_number.calls k (IntKind.u64.wrap (a0_1)) 2 t294 _ A6.out).mono ?_
      rintro e w20 ⟨rfl, hb⟩
      refine ⟨_, rfl, ?_⟩
      replace BK289 := kb_ BK289 hb
      replace HB := hb_ hb
      (try clear hb)
      (try clear hb2)
      (try clear hk)
      (try clear hi)
      refine hK.out _ _ hc_ (fun hHeld => ?_)
      clear hK K
      refine nm_ 25 ?_
      refine pu_ 8 26 ?_
      refine on_ 12 30 (fun K hK => ?_)
      refine goes_ Tryz.func103 (by kernel_rfl) rfl #[.int .u64 (IntKind.u64.wrap (a0_2)), .int .i64 4] (by rfl) rfl rfl (by (try simp only [List.map_toArray, List.map_cons, List.map_nil]); first | done | rfl | (simp only [List.length_drop, List.length_take]; rfl)) ?_
      with_reducible refine (inode_number.calls k (IntKind.u64.wrap (a0_2)) 4 t295 _ A8.out).mono ?_
      rintro e w21 ⟨rfl, hb⟩
      refine ⟨_, rfl, ?_⟩
      replace BK289 := kb_ BK289 hb
      replace HB := hb_ hb
      (try clear hb)
      (try clear hb2)
      (try clear hk)
      (try clear hi)
      refine hK.out _ _ hc_ (fun hHeld => ?_)
      clear hK K
      refine nm_ 30 ?_
      refine pu_ 13 31 ?_
      refine on_ 17 35 (fun K hK => ?_)
      refine goes_ Tryz.func103 (by kernel_rfl) rfl #[.int .u64 (IntKind.u64.wrap (a0_3)), .int .i64 4] (by rfl) rfl rfl (by (try simp only [List.map_toArray, List.map_cons, List.map_nil]); first | done | rfl | (simp only [List.length_drop, List.length_take]; rfl)) ?_
      with_reducible refine (inode_number.calls k (IntKind.u64.wrap (a0_3)) 4 t296 _ A10.out).mono ?_
      rintro e w22 ⟨rfl, hb⟩
      refine ⟨_, rfl, ?_⟩
      replace BK289 := kb_ BK289 hb
      replace HB := hb_ hb
      (try clear hb)
      (try clear hb2)
      (try clear hk)
      (try clear hi)
      refine hK.out _ _ hc_ (fun hHeld => ?_)
      clear hK K
      refine nm_ 35 ?_
      refine pu_ 18 36 ?_
      refine pu_ 20 38 ?_
      refine pu_ 21 2 ?_
      refine pu_ 22 3 ?_
      refine done_ (done_of HT_.out (by kernel_rfl)) ?_
      try go_wp2
      go_ret2
      exact ⟨by first | rfl | (simp [errW_none, errW_some] <;> rfl) | (simp [*, errW_none, errW_some] <;> rfl), bel_⟩
     rw [if_neg c12] at H
     exact absurd H (by simp)
    rw [if_neg c11] at H
    exact absurd H (by simp)
   rw [if_neg c9] at H
   exact absurd H (by simp)
  rw [if_neg c7] at H
  exact absurd H (by simp)
 rw [if_neg c3] at H
 have c3b0 : (t290 == 0) = false := beq_eq_false_iff_ne.mpr c3
 have c3b1 : (t290 != 0) = true := bne_iff_ne.mpr c3
 simp only [Option.some.injEq, Prod.mk.injEq] at H
 obtain ⟨rfl, rfl⟩ := H
 go_enter Tryz.func78, Tryz.ntmps78
 go_wp2_with (first | ((with_reducible refine gate_dst (N := 1) rfl ?_); refine bx_ (N := 1) (cs := #[.int .u8 a0_0, .int .u16 a0_1, .int .u32 a0_2, .int .u32 a0_3, .string a0_4]) (t := 100) ?_; intro gb289 hg w23 hbox hb; have BK289 := ak_ (hbox); have GW289 := ge_ hg; have GE289 := ge_ hg; replace HB := hb_ hb; clear hb hbox hg; obtain ⟨hcz24_0, hcz24_1, hcz24_2, hcz24_3, hcz24_4⟩ := cl5_ BK289; obtain ⟨hfz24_0, hfz24_1, hfz24_2, hfz24_3, hfz24_4⟩ := fz5_ BK289) | ((with_reducible refine gate_callee (f := 104) rfl ?_); refine gl_ (some 8) Tryz.func104 #[.agg #[.int .u8 a0_0, .int .u16 a0_1, .int .u32 a0_2, .int .u32 a0_3, .string a0_4]] ?_; (with_reducible refine (inode_Check.calls a0_0 a0_1 a0_2 a0_3 a0_4 t290 _ A2.out).mono ?_); rintro e w25 ⟨rfl, hb⟩; refine ⟨_, rfl, ?_⟩; replace BK289 := kb_ BK289 hb; replace HB := hb_ hb; (try clear hb); (try clear hb2); (try clear hk); (try clear hi)))
 go_ret2
 exact ⟨by first | rfl | (simp [errW_none, errW_some] <;> rfl) | (simp [*, errW_none, errW_some] <;> rfl), bel_⟩
end Go.Proofs.YtfkofbabeghgkaaGreat.Z
end

section
namespace Go.Proofs.YtfkofbabeghgkaaGreat.Z
open Go.Proofs.YtfkofbabeghgkaaGreat.PM
theorem bitLenAux_le : ∀ (f m x : Nat), x < 2 ^ m → Lib.bitLenAux f x ≤ m
  | 0, m, x, h => by simp [Lib.bitLenAux]
  | f + 1, m, x, h => by
    unfold Lib.bitLenAux
    by_cases h0 : x = 0
    · rw [if_pos h0]; omega
    · rw [if_neg h0]
      match m, h with
      | 0, h => simp at h; omega
      | m + 1, h =>
        have := bitLenAux_le f m (x / 2) (by rw [Nat.pow_succ] at h; omega)
        omega
theorem pow_two (w : Nat) : 256 ^ w = 2 ^ (8 * w) := by rw [Nat.pow_mul]
theorem nums_be : ∀ (l : List UInt8), strOfNums (l.map (fun b => (b.toNat : Int))) = ba l := by
  intro l
  unfold strOfNums ba
  rw [List.map_map]
  congr 2
  conv => rhs; rw [← List.map_id l]
  apply List.map_congr_left
  intro b _
  simp
def beI (w n : Nat) : List Int := (be w n).map (fun b => (b.toNat : Int))
theorem set_mid (a b : List Int) (x v : Int) {n : Nat} (h : a.length = n) : (a ++ x :: b).set n v = a ++ v :: b := by subst h; simp
theorem pow_cast (m : Nat) : ((2 : Int) ^ m) = ((2 ^ m : Nat) : Int) := by simp
theorem u64w {x : Int} (h0 : 0 ≤ x) (h1 : x < 18446744073709551616) : IntKind.u64.wrap x = x := IntWalk.u64_in x ⟨h0, by omega⟩
theorem number_l0 (n w : Nat) (hw : w ≤ 8) : ∀ d i : Nat, w = i + d →
    Ev (fun k => pack_Number.l0 k (n : Int) (w : Int) (List.replicate d 0 ++ beI i n) (w : Int) (i : Int)) (ba (be w n), 0)
  | 0, i, hi => by
    refine Ev.step (fun k => by rw [pack_Number.l0]) ?_
    refine Ev.ifn (by omega) (Ev.const ?_)
    obtain rfl : w = i := by omega
    rw [List.replicate_zero, List.nil_append]
    unfold beI
    rw [nums_be]
  | d + 1, i, hi => by
    refine Ev.step (fun k => by rw [pack_Number.l0]) ?_
    have e1 : wrap64 (8 * (i : Int)) = ((8 * i : Nat) : Int) := by rw [w64 (by omega) (by omega)]; omega
    have e2 : wrap64 (wrap64 ((w : Int) - 1) - (i : Int)) = (d : Int) := by rw [w64 (i := (w : Int) - 1) (by omega) (by omega), w64 (by omega) (by omega)]; omega
    have e3 : wrap64 ((i : Int) + 1) = ((i + 1 : Nat) : Int) := by rw [w64 (by omega) (by omega)]; omega
    have hl : (List.replicate (d + 1) (0 : Int) ++ beI i n).length = w := by unfold beI; rw [List.length_append, List.length_replicate, List.length_map, be_len]; omega
    rw [e1, e2, e3]
    refine Ev.ifp (by omega) (Ev.ifp (by omega) (Ev.ifp (by omega) (Ev.ifp (by rw [hl]; omega) ?_)))
    refine Ev.congr (fun k => ?_) (number_l0 n w hw d (i + 1) (by omega))
    have e4 : shr .u64 (n : Int) ((8 * i : Nat) : Int) % 256 = ((n / 256 ^ i % 256 : Nat) : Int) := by
      unfold shr
      rw [Int.toNat_natCast, show IntKind.u64.bits = 64 from rfl, Nat.min_eq_left (by omega), pow_cast, pow_two]
      simp
    have e5 : (List.replicate (d + 1) (0 : Int) ++ beI i n).set ((d : Int)).toNat (((n / 256 ^ i % 256 : Nat) : Int)) = List.replicate d 0 ++ beI (i + 1) n := by
      rw [Int.toNat_natCast, List.replicate_succ', List.append_assoc, List.singleton_append, set_mid _ _ _ _ (by simp)]
      congr 1
      unfold beI
      rw [be_cons, List.map_cons, ofNat_toNat]
    rw [e4, e5]
theorem number_f (n w : Nat) (h1 : 1 ≤ w) (h8 : w ≤ 8) (hn : n < 256 ^ w) : Ev (fun k => pack_Number.f k (n : Int) (w : Int)) (ba (be w n), 0) := by
  unfold pack_Number.f
  have hp : 256 ^ w ≤ 256 ^ 8 := Nat.pow_le_pow_right (by decide) h8
  have hn8 : n < 18446744073709551616 := by have : 256 ^ 8 = 18446744073709551616 := rfl; omega
  have hb : bits_Len64.f (n : Int) = some ((Lib.bitLen n : Nat) : Int) := by
    unfold bits_Len64.f
    rw [if_pos ⟨by omega, by omega⟩, Int.toNat_natCast]
  have hl : Lib.bitLen n ≤ 8 * w := bitLenAux_le 64 (8 * w) n (by rw [← pow_two]; exact hn)
  refine Ev.ifn (by omega) (Ev.ifn (by omega) (Ev.bindc hb ?_))
  have e : decide (((Lib.bitLen n : Nat) : Int) > wrap64 (8 * (w : Int))) = false := by
    rw [w64 (by omega) (by omega)]; simp; omega
  rw [e]
  refine Ev.step (fun k => by rw [pack_Number.j0]) ?_
  refine Ev.ifn (by decide) (Ev.ifp (by omega) (Ev.ifp (by rw [Int.toNat_natCast]; omega) (Ev.bindc rfl ?_)))
  have h := number_l0 n w h8 w 0 (by omega)
  rw [show beI 0 n = [] from rfl, List.append_nil] at h
  rw [Int.toNat_natCast, List.length_replicate]
  exact h
theorem num_f (n : Int) (w : Nat) (h1 : 1 ≤ w) (h8 : w ≤ 8) (h0 : 0 ≤ n) (hn : n.toNat < 256 ^ w) : Ev (fun k => inode_number.f k (IntKind.u64.wrap n) (w : Int)) (ba (be w n.toNat)) := by
  unfold inode_number.f
  have hp : 256 ^ w ≤ 256 ^ 8 := Nat.pow_le_pow_right (by decide) h8
  have p8 : 256 ^ 8 = 18446744073709551616 := rfl
  rw [u64w h0 (by omega)]
  have e : n = ((n.toNat : Nat) : Int) := by omega
  have h := number_f n.toNat w h1 h8 hn
  rw [← e] at h
  exact Ev.bind h (Ev.const rfl)
def takeS (w : Nat) (l : List UInt8) : Int × List UInt8 × Int := (if l.length < w then 0 else (num (l.take w) : Int), l.drop w, if l.length < w then 3 else 0)
def ba3 (x : Int × List UInt8 × Int) : Int × ByteArray × Int := (x.1, ba x.2.1, x.2.2)
theorem or_num (x : Nat) (b : Int) (hx : x < 72057594037927936) (h0 : 0 ≤ b) (h1 : b < 256) : Go.bits .or .u64 (IntKind.u64.wrap ((x : Int) * 256)) (IntKind.u64.wrap b) = ((x : Nat) : Int) * 256 + b := by
  rw [u64w (by omega) (by omega), u64w (by omega) (by omega)]
  exact bits_join .u64 64 (by decide) (fun n h0 h1 => u64w h0 (by simpa using h1)) 8 _ _ (by omega) (by omega) (by simp; omega) h0 (by simpa using h1) (by simp; omega)
theorem drop_nil_of {l : List UInt8} {w : Nat} (h : l.length < w) : l.drop w = [] := List.drop_eq_nil_of_le (by omega)
theorem take_num_snoc (l : List UInt8) (i : Nat) (h : i < l.length) : num (l.take (i + 1)) = num (l.take i) * 256 + (l[i]).toNat := by
  rw [List.take_succ_eq_append_getElem h, num_snoc]
theorem ext_end (a : ByteArray) (n : Nat) : a.extract n a.size = ba (a.data.toList.drop n) := by
  have hz := size_len a
  rw [Lib.extract_eq, List.take_of_length_le (by rw [List.length_drop]; omega)]
  rfl
theorem ext_front (a : ByteArray) (n : Nat) : a.extract 0 n = ba (a.data.toList.take n) := by
  rw [Lib.extract_eq]
  rfl
theorem tnum_l0 (a : ByteArray) (w : Nat) (hw : w ≤ 8) (hl : w ≤ a.data.toList.length) : ∀ d i : Nat, w = i + d →
    Ev (fun k => pack_TakeNumber.l0 k a (w : Int) (num (a.data.toList.take i) : Int) (w : Int) (i : Int)) ((num (a.data.toList.take w) : Int), ba (a.data.toList.drop w), 0)
  | 0, i, hi => by
    refine Ev.step (fun k => by rw [pack_TakeNumber.l0]) ?_
    have hz := size_len a
    obtain rfl : w = i := by omega
    refine Ev.ifn (by omega) (Ev.ifp (by omega) (Ev.ifp (by omega) (Ev.const ?_)))
    rw [Int.toNat_natCast, ext_end]
  | d + 1, i, hi => by
    refine Ev.step (fun k => by rw [pack_TakeNumber.l0]) ?_
    have hz := size_len a
    have hlt : i < a.data.toList.length := by omega
    have e3 : wrap64 ((i : Int) + 1) = ((i + 1 : Nat) : Int) := by rw [w64 (by omega) (by omega)]; omega
    have hn := num_lt i (a.data.toList.take i) (by rw [List.length_take]; omega)
    have hp : 256 ^ i ≤ 256 ^ 7 := Nat.pow_le_pow_right (by decide) (by omega)
    have p7 : 256 ^ 7 = 72057594037927936 := rfl
    have hb := (a.data.toList[i]).toNat_lt
    refine Ev.ifp (by omega) (Ev.ifp (by omega) (Ev.ifp (by omega) ?_))
    rw [bt_get a i hlt, or_num _ _ (by omega) (by omega) (by omega), e3]
    have ih := tnum_l0 a w hw hl d (i + 1) (by omega)
    rw [take_num_snoc _ _ hlt] at ih
    refine Ev.congr (fun k => ?_) ih
    congr 1
theorem tnum_f (a : ByteArray) (w : Nat) (h1 : 1 ≤ w) (h8 : w ≤ 8) : Ev (fun k => pack_TakeNumber.f k a (w : Int)) (ba3 (takeS w a.data.toList)) := by
  unfold pack_TakeNumber.f
  have hz := size_len a
  refine Ev.ifn (by omega) ?_
  rw [show decide ((w : Int) > 8) = false by simp; omega]
  refine Ev.step (fun k => by rw [pack_TakeNumber.j0]) ?_
  refine Ev.ifn (by decide) ?_
  by_cases h : a.data.toList.length < w
  · refine Ev.ifp (by omega) (Ev.const ?_)
    unfold ba3 takeS
    rw [if_pos h, if_pos h, drop_nil_of h]
    rfl
  · refine Ev.ifn (by omega) ?_
    refine Ev.val (tnum_l0 a w h8 (by omega) w 0 (by omega)) ?_
    unfold ba3 takeS
    rw [if_neg h, if_neg h]
theorem tknum_f (a : ByteArray) (bad : Bool) (w : Nat) (h1 : 1 ≤ w) (h8 : w ≤ 8) :
    Ev (fun k => inode_taker_number.f k a bad (w : Int)) ((takeS w a.data.toList).1, ba (a.data.toList.drop w), bad || decide (a.data.toList.length < w)) := by
  unfold inode_taker_number.f
  refine Ev.bind (tnum_f a w h1 h8) ?_
  unfold ba3 takeS
  cases bad
  · refine Ev.ifn (by decide) (Ev.const ?_)
    by_cases h : a.data.toList.length < w
    · simp only [if_pos h, decide_eq_true h]; rfl
    · simp only [if_neg h, decide_eq_false h]; rfl
  · exact Ev.ifp rfl (Ev.const (by simp))
def textS (l : List UInt8) : List UInt8 × List UInt8 × Int :=
  if l.length < 2 then ([], [], 3) else if (l.drop 2).length < num (l.take 2) then ([], [], 3) else ((l.drop 2).take (num (l.take 2)), (l.drop 2).drop (num (l.take 2)), 0)
theorem ttext_f (a : ByteArray) (hs : a.size ≤ 9223372036854775807) : Ev (fun k => pack_TakeText.f k a) (ba (textS a.data.toList).1, ba (textS a.data.toList).2.1, (textS a.data.toList).2.2) := by
  unfold pack_TakeText.f
  have hz := size_len a
  refine Ev.bind (tnum_f a 2 (by decide) (by decide)) ?_
  unfold ba3 takeS textS
  by_cases h : a.data.toList.length < 2
  · simp only [if_pos h]
    refine Ev.ifn (by decide) (Ev.step (fun k => by rw [pack_TakeText.j0]) ?_)
    exact Ev.ifn (by decide) (Ev.ifn (by decide) (Ev.const rfl))
  · simp only [if_neg h]
    refine Ev.ifp trivial ?_
    have hd : (a.data.toList.drop 2).length = a.data.toList.length - 2 := by simp
    rw [ba_size, u64w (by omega) (by omega)]
    by_cases hn : (a.data.toList.drop 2).length < num (a.data.toList.take 2)
    · rw [show decide (((num (a.data.toList.take 2) : Nat) : Int) > ((a.data.toList.drop 2).length : Int)) = true by simp only [decide_eq_true_eq]; omega, if_pos hn]
      refine Ev.step (fun k => by rw [pack_TakeText.j0]) ?_
      exact Ev.ifp rfl (Ev.const rfl)
    · rw [show decide (((num (a.data.toList.take 2) : Nat) : Int) > ((a.data.toList.drop 2).length : Int)) = false by simp only [decide_eq_false_iff_not]; omega, if_neg hn]
      refine Ev.step (fun k => by rw [pack_TakeText.j0]) ?_
      refine Ev.ifn (by decide) (Ev.ifp rfl (Ev.ifp (by omega) (Ev.ifp (by rw [ba_size]; omega) (Ev.const ?_))))
      rw [Int.toNat_natCast, ext_end, ext_front, ba_data]
theorem text_f (a : ByteArray) (hs : a.size ≤ 65535) : Ev (fun k => pack_Text.f k a) (ba (be 2 a.data.toList.length ++ a.data.toList), 0) := by
  unfold pack_Text.f
  have hz := size_len a
  rw [u64w (by omega) (by omega), hz]
  refine Ev.bind (number_f a.data.toList.length 2 (by decide) (by decide) (by rw [p2]; omega)) (Ev.ifp rfl ?_)
  refine Ev.ifp (by rw [ba_size, be_len]; omega) (Ev.const ?_)
  rw [← ba_app, data_ba]
theorem check_f (k m l s : Int) (a : ByteArray) (hs : 0 ≤ s ∧ s < 4294967296) : inode_Check.f k m l s a = some (if okN k l s a.data.toList = true then 0 else 4) := by
  unfold inode_Check.f okN
  rw [ByteArray.toList_eq]
  have hz := size_len a
  by_cases h1 : k = 1
  · rw [if_pos h1]; subst h1
    by_cases h2 : l = 1 <;> by_cases h3 : s = 0 <;> by_cases h4 : a.data.toList = [] <;> simp [h2, h3, h4]
  · rw [if_neg h1]
    by_cases h2 : k = 2
    · rw [if_pos h2]; subst h2
      by_cases h2 : l > 0 <;> by_cases h3 : s ≤ 65536 <;> by_cases h4 : a.data.toList = [] <;> simp [h2, h3, h4]
    · rw [if_neg h2]
      by_cases h3 : k = 3
      · rw [if_pos h3]; subst h3
        by_cases h4 : l > 0
        · rw [if_pos h4]
          by_cases h5 : a.data.toList = []
          · rw [if_pos h5]; simp [h5]
          · rw [if_neg h5]
            by_cases h6 : (a.size : Int) ≤ 64
            · rw [if_pos h6]
              have hc : strings_Contains.f a ⟨#[0]⟩ = some (decide (0 ∈ a.data.toList)) := by
                unfold strings_Contains.f
                rw [dif_pos (by rfl)]
                have hi := index_mem a.data.toList 0
                exact congrArg some (by rw [Bool.eq_iff_iff]; simpa using hi)
              rw [hc, Option.bind_some, w64 (by omega) (by omega)]
              have h6' : a.data.toList.length ≤ 64 := by omega
              by_cases h7 : 0 ∈ a.data.toList
              · rw [if_pos (by simpa using h7)]; simp [h7]
              · rw [if_neg (by simpa using h7)]
                by_cases h8 : s = (a.size : Int)
                · rw [if_pos h8]
                  have h8' : s = a.data.toList.length := by omega
                  rw [if_pos (by simp only [decide_eq_true_eq]; exact .inr (.inr ⟨trivial, by omega, h5, h6', h7, h8'⟩))]
                · rw [if_neg h8, if_neg (by simp only [decide_eq_true_eq]; rintro (h | h | h); · omega
                                            · omega
                                            · exact h8 (by omega))]
            · rw [if_neg h6, if_neg (by simp only [decide_eq_true_eq]; rintro (h | h | h); · omega
                                        · omega
                                        · exact h6 (by omega))]
        · rw [if_neg h4, if_neg (by simp only [decide_eq_true_eq]; omega)]
      · rw [if_neg h3, if_neg (by simp only [decide_eq_true_eq]; omega)]
theorem okN_size {k l s : Int} {t : List UInt8} (h : okN k l s t = true) : t.length ≤ 64 := by
  unfold okN at h
  rcases of_decide_eq_true h with h | h | h
  · rw [h.2.2.2]; decide
  · rw [h.2.2.2]; decide
  · exact h.2.2.2.1
theorem encode_f (k m l s : Int) (a : ByteArray) (hk : 0 ≤ k ∧ k < 256) (hm : 0 ≤ m ∧ m < 65536) (hl : 0 ≤ l ∧ l < 4294967296) (hs : 0 ≤ s ∧ s < 4294967296) :
    Ev (fun r => inode_Encode.f r k m l s a) (ba (encS k m l s a.data.toList).1, (encS k m l s a.data.toList).2) := by
  unfold inode_Encode.f encS
  have hz := size_len a
  rw [check_f k m l s a hs]
  refine Ev.bindc rfl ?_
  by_cases h : okN k l s a.data.toList = true
  · rw [if_pos h, if_pos h]
    have h64 := okN_size h
    refine Ev.ifp rfl (Ev.bind (text_f a (by omega)) (Ev.bind (num_f k 1 (by decide) (by decide) hk.1 (by rw [p1]; omega)) (Ev.bind (num_f m 2 (by decide) (by decide) hm.1 (by rw [p2]; omega)) ?_)))
    refine Ev.ifp (by simp only [ba_size, be_len]; omega) (Ev.bind (num_f l 4 (by decide) (by decide) hl.1 (by rw [p4]; omega)) ?_)
    refine Ev.ifp (by simp only [ba_app, ba_size, List.length_append, be_len]; omega) (Ev.bind (num_f s 4 (by decide) (by decide) hs.1 (by rw [p4]; omega)) ?_)
    refine Ev.ifp (by simp only [ba_app, ba_size, List.length_append, be_len]; omega) (Ev.ifp (by simp only [ba_app, ba_size, List.length_append, be_len]; omega) (Ev.const ?_))
    unfold enc
    simp only [ba_app, List.append_assoc]
  · rw [if_neg h, if_neg h]
    exact Ev.ifn (by decide) (Ev.const rfl)
def baI (x : Ino) : Int × Int × Int × Int × ByteArray × Int := (x.1, x.2.1, x.2.2.1, x.2.2.2.1, ba x.2.2.2.2.1, x.2.2.2.2.2)
theorem u16w {x : Int} (h0 : 0 ≤ x) (h1 : x < 65536) : IntKind.u16.wrap x = x := by
  simp only [IntKind.wrap, IntKind.bits, IntKind.signed]
  simp
  omega
theorem decode_f (a : ByteArray) (hs : a.size ≤ 9223372036854775807) : Ev (fun r => inode_Decode.f r a) (baI (decS a.data.toList)) := by
  unfold inode_Decode.f
  have hz := size_len a
  have d1 : (ba (a.data.toList.drop 1)).data.toList = a.data.toList.drop 1 := ba_data _
  have d2 : (ba ((a.data.toList.drop 1).drop 2)).data.toList = d3 a.data.toList := ba_data _
  have d4 : (ba ((d3 a.data.toList).drop 4)).data.toList = d7 a.data.toList := ba_data _
  have d5 : (ba ((d7 a.data.toList).drop 4)).data.toList = d11 a.data.toList := ba_data _
  have t1 := tknum_f a false 1 (by decide) (by decide)
  have t2 := fun b => tknum_f (ba (a.data.toList.drop 1)) b 2 (by decide) (by decide)
  rw [d1] at t2
  have t3 := fun b => tknum_f (ba ((a.data.toList.drop 1).drop 2)) b 4 (by decide) (by decide)
  rw [d2] at t3
  have t4 := fun b => tknum_f (ba ((d3 a.data.toList).drop 4)) b 4 (by decide) (by decide)
  rw [d4] at t4
  have hd11 : (d11 a.data.toList).length = a.data.toList.length - 11 := by unfold d11 d7 d3; simp only [List.length_drop]; omega
  have hd7 : (d7 a.data.toList).length = a.data.toList.length - 7 := by unfold d7 d3; simp only [List.length_drop]; omega
  have hd3 : (d3 a.data.toList).length = a.data.toList.length - 3 := by unfold d3; simp only [List.length_drop]; omega
  have hd1 : (a.data.toList.drop 1).length = a.data.toList.length - 1 := by simp
  have t5 := ttext_f (ba ((d7 a.data.toList).drop 4)) (by rw [ba_size]; show (d11 a.data.toList).length ≤ _; omega)
  rw [d5] at t5
  refine Ev.bind t1 (Ev.bind (t2 _) (Ev.bind (t3 _) (Ev.bind (t4 _) ?_)))
  unfold inode_taker_text.f
  have bad : (((false || decide (a.data.toList.length < 1)) || decide ((a.data.toList.drop 1).length < 2)) || decide ((d3 a.data.toList).length < 4) || decide ((d7 a.data.toList).length < 4)) = decide (a.data.toList.length < 11) := by
    rw [Bool.eq_iff_iff]
    simp only [Bool.false_or, Bool.or_eq_true, decide_eq_true_eq, hd7, hd3, hd1]
    omega
  simp only [bad]
  have none_ : ¬ (whole a.data.toList ∧ okN (f1 a.data.toList) (f3 a.data.toList) (f4 a.data.toList) (d13 a.data.toList) = true) → baI (decS a.data.toList) = (0, 0, 0, 0, ⟨#[]⟩, 4) := by
    intro h
    unfold decS
    rw [if_neg h]
    rfl
  by_cases h11 : a.data.toList.length < 11
  · have hn := none_ (fun h => by have := h.1.1; omega)
    rw [hn]
    rw [show decide (a.data.toList.length < 11) = true by simpa using h11]
    refine Ev.bind (Ev.bind t5 (Ev.ifp rfl (Ev.const rfl))) (Ev.ifp rfl (Ev.const rfl))
  · rw [show decide (a.data.toList.length < 11) = false by simpa using h11]
    refine Ev.bind (Ev.bind t5 (Ev.ifn (by decide) (Ev.const rfl))) ?_
    unfold textS
    by_cases h2 : (d11 a.data.toList).length < 2
    · simp only [if_pos h2]
      have hn := none_ (fun h => by have := h.1.1; omega)
      rw [hn]
      exact Ev.ifp rfl (Ev.const rfl)
    · simp only [if_neg h2]
      by_cases hn : ((d11 a.data.toList).drop 2).length < num ((d11 a.data.toList).take 2)
      · simp only [if_pos hn]
        have hn := none_ (fun h => by have := h.1.2; rw [List.length_drop] at hn; omega)
        rw [hn]
        exact Ev.ifp rfl (Ev.const rfl)
      · simp only [if_neg hn]
        refine Ev.ifn (by decide) ?_
        rw [ba_toList]
        by_cases hr : ((d11 a.data.toList).drop 2).drop (num ((d11 a.data.toList).take 2)) = []
        · refine Ev.ifp hr ?_
          have hlen : ((d11 a.data.toList).drop 2).length = num ((d11 a.data.toList).take 2) := by
            have := congrArg List.length hr
            rw [List.length_drop] at this
            simp at this hn
            simp
            omega
          have hw : whole a.data.toList := by
            refine ⟨by omega, ?_⟩
            rw [List.length_drop] at hlen
            omega
          have ht : ((d11 a.data.toList).drop 2).take (num ((d11 a.data.toList).take 2)) = d13 a.data.toList := by
            rw [← hlen, List.take_length]; rfl
          obtain ⟨r1, r2, r3, r4⟩ := f_range _ hw
          have e1 : (takeS 1 a.data.toList).1 = f1 a.data.toList := by unfold takeS; rw [if_neg (by omega)]; rfl
          have e2 : (takeS 2 (a.data.toList.drop 1)).1 = f2 a.data.toList := by unfold takeS; rw [if_neg (by omega)]; rfl
          have e3 : (takeS 4 (d3 a.data.toList)).1 = f3 a.data.toList := by unfold takeS; rw [if_neg (by omega)]; rfl
          have e4 : (takeS 4 (d7 a.data.toList)).1 = f4 a.data.toList := by unfold takeS; rw [if_neg (by omega)]; rfl
          rw [e1, e2, e3, e4, ht, u16w r2.1 r2.2, Int.emod_eq_of_lt r1.1 r1.2, Int.emod_eq_of_lt r3.1 r3.2, Int.emod_eq_of_lt r4.1 r4.2]
          refine Ev.bindc (check_f _ _ _ _ _ r4) ?_
          rw [ba_data]
          by_cases hok : okN (f1 a.data.toList) (f3 a.data.toList) (f4 a.data.toList) (d13 a.data.toList) = true
          · rw [if_pos hok]
            refine Ev.ifp rfl (Ev.const ?_)
            unfold decS
            rw [if_pos ⟨hw, hok⟩]
            rfl
          · rw [if_neg hok, none_ (fun h => hok h.2)]
            exact Ev.ifn (by decide) (Ev.const rfl)
        · rw [none_ (fun h => hr (List.drop_eq_nil_of_le (by have := h.1.2; rw [List.length_drop]; omega)))]
          exact Ev.ifn hr (Ev.const rfl)
end Go.Proofs.YtfkofbabeghgkaaGreat.Z
end

section
namespace Go.Proofs.YtfkofbabeghgkaaGreat.Z
open Go.Proofs.YtfkofbabeghgkaaGreat.PM
theorem right_jt (x3 : Bool) (x8 : Int) (y0 y1 : Int) (a : ByteArray) (c : Int) : Ev (fun r => inode_right.j0 r x3 x8 true y0 y1 a c) (x3 && (nameL a.data.toList && c == 0)) := by
  refine Ev.step (fun k => by rw [inode_right.j0]) ?_
  refine Ev.ifp rfl ?_
  cases x3
  · exact Ev.ifn (by decide) (Ev.const rfl)
  · refine Ev.ifp rfl (Ev.bindc (name_f a) ?_)
    by_cases hn : nameL a.data.toList = true
    · exact Ev.ifp hn (Ev.const (by simp [hn]))
    · exact Ev.ifn hn (Ev.const (by simp [hn]))
theorem right_j3 (x3 : Bool) (y0 y1 : Int) (a : ByteArray) (c : Int) : Ev (fun r => inode_right.j0 r x3 3 false y0 y1 a c) (x3 && (decide (a.data.toList = []) && decide (c < 512))) := by
  refine Ev.step (fun k => by rw [inode_right.j0]) ?_
  refine Ev.ifn (by decide) (Ev.ifp rfl ?_)
  cases x3
  · exact Ev.ifn (by decide) (Ev.const rfl)
  · refine Ev.ifp rfl ?_
    rw [ByteArray.toList_eq]
    by_cases hn : a.data.toList = []
    · exact Ev.ifp hn (Ev.const (by simp [hn]))
    · exact Ev.ifn hn (Ev.const (by simp [hn]))
theorem right_jn (x3 : Bool) (x8 : Int) (h8 : ¬ x8 = 3) (y0 y1 : Int) (a : ByteArray) (c : Int) : Ev (fun r => inode_right.j0 r x3 x8 false y0 y1 a c) false := by
  refine Ev.step (fun k => by rw [inode_right.j0]) ?_
  exact Ev.ifn (by decide) (Ev.ifn h8 (Ev.const rfl))
theorem right_f (k i : Int) (a : ByteArray) (c : Int) : Ev (fun r => inode_right.f r k i a c) (rightK k i a.data.toList c) := by
  unfold inode_right.f
  have key : ∀ b : Bool, (b = true ↔ (0 < i ∧ (k = 1 ∧ a.data.toList = [] ∧ c = 0 ∨ (k = 2 ∨ k = 4) ∧ nameL a.data.toList = true ∧ c = 0 ∨ k = 3 ∧ a.data.toList = [] ∧ c < 512))) → b = rightK k i a.data.toList c := fun b h => by
    unfold rightK
    rw [Bool.eq_iff_iff, h, decide_eq_true_eq]
  by_cases h1 : k = 1
  · refine Ev.ifp h1 ?_
    subst h1
    by_cases hi : i > 0
    · refine Ev.ifp hi ?_
      rw [ByteArray.toList_eq]
      by_cases hn : a.data.toList = []
      · refine Ev.ifp hn (Ev.const (congrArg some (key _ ?_)))
        rw [beq_iff_eq]
        exact ⟨fun h => ⟨hi, .inl ⟨rfl, hn, h⟩⟩, fun h => by omega⟩
      · refine Ev.ifn hn (Ev.const (congrArg some (key _ ?_)))
        refine ⟨fun h => absurd h (by decide), fun h => ?_⟩
        rcases h.2 with h | h | h
        · exact absurd h.2.1 hn
        · omega
        · omega
    · refine Ev.ifn hi (Ev.const (congrArg some (key _ ?_)))
      exact ⟨fun h => absurd h (by decide), fun h => absurd h.1 hi⟩
  · refine Ev.ifn h1 ?_
    by_cases h2 : k = 2
    · refine Ev.ifp h2 ?_
      subst h2
      refine Ev.val (right_jt _ _ _ _ _ _) (key _ ?_)
      simp only [decide_eq_true_eq, Bool.and_eq_true, beq_iff_eq]
      refine ⟨fun h => ⟨h.1, .inr (.inl ⟨.inl trivial, h.2.1, h.2.2⟩)⟩, fun h => ⟨h.1, ?_⟩⟩
      rcases h.2 with h | h | h
      · omega
      · exact h.2
      · omega
    · refine Ev.ifn h2 ?_
      by_cases h4 : k = 4
      · subst h4
        refine Ev.val (right_jt _ _ _ _ _ _) (key _ ?_)
        simp only [decide_eq_true_eq, Bool.and_eq_true, beq_iff_eq]
        refine ⟨fun h => ⟨h.1, .inr (.inl ⟨.inr trivial, h.2.1, h.2.2⟩)⟩, fun h => ⟨h.1, ?_⟩⟩
        rcases h.2 with h | h | h
        · omega
        · exact h.2
        · omega
      · rw [show (k == 4) = false by simpa using h4]
        by_cases h3 : k = 3
        · subst h3
          refine Ev.val (right_j3 _ _ _ _ _) (key _ ?_)
          simp only [decide_eq_true_eq, Bool.and_eq_true]
          refine ⟨fun h => ⟨h.1, .inr (.inr ⟨trivial, h.2.1, h.2.2⟩)⟩, fun h => ⟨h.1, ?_⟩⟩
          rcases h.2 with h | h | h
          · omega
          · omega
          · exact h.2
        · refine Ev.val (right_jn _ _ h3 _ _ _ _) (key _ ?_)
          exact ⟨fun h => absurd h (by decide), fun h => by omega⟩
theorem letterOf_lett (k : Int) : (letterOf k = 0 ↔ lett k = []) ∧ letterB k = ba (lett k) := by
  unfold letterOf lett letterB
  by_cases h1 : k = 1
  · subst h1; exact ⟨by decide, rfl⟩
  · rw [if_neg h1, if_neg h1, if_neg h1]
    by_cases h2 : k = 2
    · subst h2; exact ⟨by decide, rfl⟩
    · rw [if_neg h2, if_neg h2, if_neg h2]
      by_cases h3 : k = 3
      · subst h3; exact ⟨by decide, rfl⟩
      · rw [if_neg h3, if_neg h3, if_neg h3]
        by_cases h4 : k = 4
        · subst h4; exact ⟨by decide, rfl⟩
        · rw [if_neg h4, if_neg h4, if_neg h4]
          exact ⟨by simp, rfl⟩
theorem prefix_f (k i : Int) (hk : 0 ≤ k) (hi : 0 ≤ i ∧ i < 4294967296) : Ev (fun r => inode_Prefix.f r k i) (ba (prefL k i)) := by
  unfold inode_Prefix.f prefL
  obtain ⟨h1, h2⟩ := letterOf_lett k
  refine Ev.ifp hk ?_
  by_cases h : letterOf k = 0
  · rw [if_pos (h1.1 h)]
    exact Ev.ifp h (Ev.const rfl)
  · rw [if_neg (fun e => h (h1.2 e))]
    refine Ev.ifn h (Ev.bind (num_f i 4 (by decide) (by decide) hi.1 (by rw [p4]; omega)) (Ev.ifp (by rw [ba_size, be_len]; omega) (Ev.const ?_)))
    rw [h2, ba_app]
theorem rightK_size {k i : Int} {nm : List UInt8} {c : Int} (h : rightK k i nm c = true) : nm.length ≤ 24 ∧ c < 512 := by
  unfold rightK at h
  rcases (of_decide_eq_true h).2 with h1 | h1 | h1
  · rw [h1.2.1]; exact ⟨by decide, by omega⟩
  · exact ⟨(nameL_iff.1 h1.2.1).2.1, by omega⟩
  · rw [h1.2.1]; exact ⟨by decide, by omega⟩
theorem key_f (k i : Int) (a : ByteArray) (c : Int) (hk : 0 ≤ k) (hi : 0 ≤ i ∧ i < 4294967296) (hc : 0 ≤ c) :
    Ev (fun r => inode_Key.f r k i a c) (ba (keyS k i a.data.toList c).1, (keyS k i a.data.toList c).2) := by
  unfold inode_Key.f keyS
  have hz := size_len a
  refine Ev.bind (right_f k i a c) ?_
  by_cases h : rightK k i a.data.toList c = true
  · rw [if_pos h]
    have hl := prefL_len (i := i) (lett_ne h)
    obtain ⟨hn, hc2⟩ := rightK_size h
    refine Ev.ifp h (Ev.bind (prefix_f k i hk hi) ?_)
    unfold keyL
    by_cases h3 : k = 3
    · rw [if_pos h3]
      refine Ev.ifp h3 (Ev.bind (num_f c 4 (by decide) (by decide) hc (by rw [p4]; omega)) (Ev.ifp (by rw [ba_size, ba_size, be_len]; omega) (Ev.const ?_)))
      rw [ba_app]
    · rw [if_neg h3]
      refine Ev.ifn h3 (Ev.ifp (by rw [ba_size]; omega) (Ev.const ?_))
      rw [← ba_app, data_ba]
  · rw [if_neg h]
    exact Ev.ifn h (Ev.const rfl)
def baK (x : KeyT) : Int × Int × ByteArray × Int × Int := (x.1, x.2.1, ba x.2.2.1, x.2.2.2.1, x.2.2.2.2)
theorem parse_round (a : ByteArray) (x d c1 c2 c3 c4 K : Int) (hx : 0 ≤ x ∧ x < 5) (hs : 0 < a.size) (hd : d = 0 ∨ d = 1 ∧ c1 = 105 ∧ c2 = 100 ∧ c3 = 99 ∧ c4 = 120) {r : Int × Int × ByteArray × Int × Int}
    (h : Ev (fun k => inode_Parse.l0 k a (x + 1) 1 0 0 0 105 100 99 120 (if letterOf x = bt a 0 then x else K) 0 ⟨#[]⟩ 0) r) :
    Ev (fun k => inode_Parse.l0 k a x d 0 0 0 c1 c2 c3 c4 K 0 ⟨#[]⟩ 0) r := by
  refine Ev.step (fun k => by rw [inode_Parse.l0]) ?_
  have hf : inode_letters_letter.f d 0 0 0 c1 c2 c3 c4 x = some (letterOf x, 1, 0, 0, 0, 105, 100, 99, 120) := by
    unfold inode_letters_letter.f
    rw [if_pos ⟨hx.1, rfl, rfl, hd⟩]
  have he : (x + 1) % 256 = x + 1 := by omega
  refine Ev.ifp hx.2 (Ev.bindc hf (Ev.ifp (by omega) ?_))
  rw [he]
  by_cases hb : letterOf x = bt a 0
  · rw [if_pos hb] at h
    exact Ev.ifp hb h
  · rw [if_neg hb] at h
    exact Ev.ifn hb h
theorem parse_end (a : ByteArray) (K d c1 c2 c3 c4 : Int) (hK : K = g1 a.data.toList) (h5 : ¬ a.data.toList.length < 5) :
    Ev (fun k => inode_Parse.l0 k a 5 d 0 0 0 c1 c2 c3 c4 K 0 ⟨#[]⟩ 0) (baK (parsS a.data.toList)) := by
  refine Ev.step (fun k => by rw [inode_Parse.l0]) ?_
  have hz := size_len a
  have hr := g2_range h5
  have t1 := tknum_f (a.extract 1 a.size) false 4 (by decide) (by decide)
  have e0 : (a.extract 1 a.size).data.toList = a.data.toList.drop 1 := by rw [ext_end, ba_data]
  rw [e0] at t1
  have el : (a.data.toList.drop 1).length = a.data.toList.length - 1 := by simp
  have e1 : (takeS 4 (a.data.toList.drop 1)).1 = g2 a.data.toList := by unfold takeS; rw [if_neg (by omega)]; rfl
  have e2 : (false || decide ((a.data.toList.drop 1).length < 4)) = false := by simp only [Bool.false_or, decide_eq_false_iff_not]; omega
  rw [e1, e2] at t1
  refine Ev.ifn (by omega) (Ev.ifp (by omega) (Ev.bind t1 ?_))
  rw [Int.emod_eq_of_lt hr.1 hr.2]
  have e5 : (a.data.toList.drop 1).drop 4 = r5 a.data.toList := rfl
  simp only [e5]
  have ez : baK (0, 0, [], 0, 4) = (0, 0, ⟨#[]⟩, 0, 4) := rfl
  have lk : 0 ≤ g1 a.data.toList := by unfold g1 kindOf; repeat' split <;> omega
  by_cases h3 : K = 3
  · refine Ev.ifp h3 ?_
    have t2 := tknum_f (ba (r5 a.data.toList)) false 4 (by decide) (by decide)
    rw [ba_data] at t2
    refine Ev.bind t2 ?_
    have hg3 : g1 a.data.toList = 3 := by omega
    have hw := key_whole h5 (by rw [hg3]; decide)
    simp only [Bool.false_or]
    have hn0 : 0 ≤ (takeS 4 (r5 a.data.toList)).1 ∧ (takeS 4 (r5 a.data.toList)).1 < 4294967296 := by
      unfold takeS
      by_cases h4 : (r5 a.data.toList).length < 4
      · simp only [if_pos h4]; omega
      · simp only [if_neg h4]
        have := num_lt 4 ((r5 a.data.toList).take 4) (by rw [List.length_take]; omega)
        rw [p4] at this
        omega
    have bad : ¬ ((r5 a.data.toList).length = 4 ∧ rightK 3 (g2 a.data.toList) [] (num (r5 a.data.toList)) = true) → baK (parsS a.data.toList) = (0, 0, (⟨#[]⟩ : ByteArray), 0, 4) := by
      intro h
      unfold parsS
      rw [if_neg h5, if_pos hg3, if_neg h]
      rfl
    have good : (r5 a.data.toList).length = 4 ∧ rightK 3 (g2 a.data.toList) [] (num (r5 a.data.toList)) = true → baK (parsS a.data.toList) = (3, g2 a.data.toList, (⟨#[]⟩ : ByteArray), (num (r5 a.data.toList) : Int), 0) := by
      intro h
      unfold parsS
      rw [if_neg h5, if_pos hg3, if_pos h]
      rfl
    rw [Int.emod_eq_of_lt hn0.1 hn0.2]
    refine Ev.bind (key_f K (g2 a.data.toList) ⟨#[]⟩ _ (by omega) hr hn0.1) ?_
    by_cases h4 : (r5 a.data.toList).length < 4
    · rw [bad (fun h => by have := h.1; omega)]
      exact Ev.ifp (by simpa using h4) (Ev.const rfl)
    · refine Ev.ifn (by simpa using h4) ?_
      have en : (takeS 4 (r5 a.data.toList)).1 = (num ((r5 a.data.toList).take 4) : Int) := by unfold takeS; rw [if_neg h4]
      rw [en, h3]
      have e0 : (⟨#[]⟩ : ByteArray).data.toList = [] := rfl
      rw [e0]
      by_cases hok : rightK 3 (g2 a.data.toList) [] (num ((r5 a.data.toList).take 4)) = true
      · have hk : keyS 3 (g2 a.data.toList) [] (num ((r5 a.data.toList).take 4)) = (keyL 3 (g2 a.data.toList) [] (num ((r5 a.data.toList).take 4)), 0) := by unfold keyS; rw [if_pos hok]
        rw [hk]
        refine Ev.ifp rfl ?_
        have ek : (ba (keyL 3 (g2 a.data.toList) [] (num ((r5 a.data.toList).take 4)))).toList = prefL 3 (g2 a.data.toList) ++ (r5 a.data.toList).take 4 := by
          rw [ba_toList]
          unfold keyL
          rw [if_pos rfl, Int.toNat_natCast, be_num 4 _ (by rw [List.length_take]; omega)]
        have ea : a.toList = prefL 3 (g2 a.data.toList) ++ r5 a.data.toList := by rw [ByteArray.toList_eq, ← hg3, hw]
        by_cases h44 : (r5 a.data.toList).length = 4
        · have et : (r5 a.data.toList).take 4 = r5 a.data.toList := List.take_of_length_le (by omega)
          rw [et] at hok ek ⊢
          rw [good ⟨h44, hok⟩]
          exact Ev.ifp (by rw [ek, ea]) (Ev.const rfl)
        · rw [bad (fun h => h44 h.1)]
          refine Ev.ifn (fun h => ?_) (Ev.const rfl)
          have h := h
          simp only at h
          rw [ek, ea] at h
          have := congrArg List.length (List.append_cancel_left h)
          rw [List.length_take] at this
          omega
      · have hk : keyS 3 (g2 a.data.toList) [] (num ((r5 a.data.toList).take 4)) = ([], 4) := by unfold keyS; rw [if_neg hok]
        rw [hk, bad (fun h => by rw [List.take_of_length_le (by omega)] at hok; exact hok h.2)]
        exact Ev.ifn (by decide) (Ev.const rfl)
  · refine Ev.ifn h3 ?_
    have hg3 : ¬ g1 a.data.toList = 3 := by omega
    have hk := key_f K (g2 a.data.toList) (ba (r5 a.data.toList)) 0 (by omega) hr (by omega)
    rw [ba_data] at hk
    refine Ev.bind hk (Ev.ifn (by decide) ?_)
    rw [hK]
    by_cases hok : rightK (g1 a.data.toList) (g2 a.data.toList) (r5 a.data.toList) 0 = true
    · have hp : parsS a.data.toList = (g1 a.data.toList, g2 a.data.toList, r5 a.data.toList, 0, 0) := by unfold parsS; rw [if_neg h5, if_neg hg3, if_pos hok]
      have hk : keyS (g1 a.data.toList) (g2 a.data.toList) (r5 a.data.toList) 0 = (keyL (g1 a.data.toList) (g2 a.data.toList) (r5 a.data.toList) 0, 0) := by unfold keyS; rw [if_pos hok]
      rw [hp, hk]
      refine Ev.ifp rfl (Ev.ifp ?_ (Ev.const rfl))
      rw [ba_toList]
      unfold keyL
      rw [if_neg hg3, key_whole h5 (right_kind hok), ByteArray.toList_eq]
    · have hp : parsS a.data.toList = (0, 0, [], 0, 4) := by unfold parsS; rw [if_neg h5, if_neg hg3, if_neg hok]
      have hk : keyS (g1 a.data.toList) (g2 a.data.toList) (r5 a.data.toList) 0 = ([], 4) := by unfold keyS; rw [if_neg hok]
      rw [hp, hk]
      exact Ev.ifn (by decide) (Ev.const rfl)
theorem parse_f (a : ByteArray) (hs : a.size ≤ 9223372036854775807) : Ev (fun k => inode_Parse.f k a) (baK (parsS a.data.toList)) := by
  unfold inode_Parse.f
  have hz := size_len a
  by_cases h5 : a.data.toList.length < 5
  · refine Ev.ifp (by omega) (Ev.const ?_)
    unfold parsS
    rw [if_pos h5]
    rfl
  · refine Ev.ifn (by omega) ?_
    have hd : ∀ d c1 c2 c3 c4 : Int, d = 1 ∧ c1 = 105 ∧ c2 = 100 ∧ c3 = 99 ∧ c4 = 120 → (d = 0 ∨ d = 1 ∧ c1 = 105 ∧ c2 = 100 ∧ c3 = 99 ∧ c4 = 120) := fun _ _ _ _ _ h => .inr h
    refine parse_round a 1 0 0 0 0 0 0 (by decide) (by omega) (.inl rfl) ?_
    refine parse_round a (1 + 1) 1 105 100 99 120 _ (by decide) (by omega) (hd _ _ _ _ _ ⟨rfl, rfl, rfl, rfl, rfl⟩) ?_
    refine parse_round a (1 + 1 + 1) 1 105 100 99 120 _ (by decide) (by omega) (hd _ _ _ _ _ ⟨rfl, rfl, rfl, rfl, rfl⟩) ?_
    refine parse_round a (1 + 1 + 1 + 1) 1 105 100 99 120 _ (by decide) (by omega) (hd _ _ _ _ _ ⟨rfl, rfl, rfl, rfl, rfl⟩) ?_
    refine parse_end a _ 1 105 100 99 120 ?_ h5
    have hlt : 0 < a.data.toList.length := by omega
    have hb := bt_get a 0 hlt
    simp only [Int.ofNat_zero] at hb
    rw [show bt a 0 = ((a.data.toList[0]).toNat : Int) from hb]
    have hg : g1 a.data.toList = kindOf (a.data.toList[0]) := by
      unfold g1
      congr 1
      match a.data.toList, hlt with
      | b :: _, _ => rfl
    rw [hg]
    generalize a.data.toList[0] = b
    have q := fun n (hn : n < 256) => byte_eq b n hn
    have q1 := q 105 (by decide)
    have q2 := q 100 (by decide)
    have q3 := q 99 (by decide)
    have q4 := q 120 (by decide)
    have l1 : letterOf 1 = 105 := rfl
    have l2 : letterOf (1 + 1) = 100 := rfl
    have l3 : letterOf (1 + 1 + 1) = 99 := rfl
    have l4 : letterOf (1 + 1 + 1 + 1) = 120 := rfl
    rw [l1, l2, l3, l4]
    unfold kindOf
    by_cases h1 : b = 105
    · subst h1; rfl
    · by_cases h2 : b = 100
      · subst h2; rfl
      · by_cases h3 : b = 99
        · subst h3; rfl
        · by_cases h4 : b = 120
          · subst h4; rfl
          · rw [if_neg h1, if_neg h2, if_neg h3, if_neg h4, if_neg (fun e => h4 (q4.1 e.symm)), if_neg (fun e => h3 (q3.1 e.symm)), if_neg (fun e => h2 (q2.1 e.symm)), if_neg (fun e => h1 (q1.1 e.symm))]
end Go.Proofs.YtfkofbabeghgkaaGreat.Z
end

section
namespace Go.Proofs.YtfkofbabeghgkaaGreat.Z
open Go.Proofs.YtfkofbabeghgkaaGreat.PM
abbrev Bs := List UInt8
def txtB (l : Bs) : Bs := be 2 l.length ++ l
def chB (c : Ch) : Bs := if c.f1 = true then 1 :: (txtB (ck c) ++ txtB c.f2.data.toList) else 0 :: txtB (ck c)
def bodyB (base : Bs) (cs : List Ch) : Bs := [67, 83] ++ (base ++ (be 4 cs.length ++ cs.flatMap chB))
def strB (base : Bs) (cs : List Ch) : Bs := bodyB base cs ++ be 4 (crc (bodyB base cs) 0)
abbrev Tk := Bs × Bool
def tN (w : Nat) (t : Tk) : Nat × Tk := (if t.1.length < w then 0 else num (t.1.take w), t.1.drop w, t.2 || decide (t.1.length < w))
def tT (t : Tk) : Bs × Tk := ((textS t.1).1, (textS t.1).2.1, t.2 || (textS t.1).2.2 != 0)
def notUp (cs : List Ch) (k : Bs) : Bool := match cs.getLast? with
  | none => false
  | some d => !Op.bytesLess (ck d) k
def tC (t : Tk) (cs : List Ch) : Tk × List Ch :=
  let n := tN 1 t
  let k := tT n.2
  if n.1 = 1 then
    let v := tT k.2
    ((v.2.1, v.2.2 || notUp cs k.1), cs ++ [⟨ba k.1, true, ba v.1⟩])
  else if n.1 = 0 then ((k.2.1, k.2.2 || notUp cs k.1), cs ++ [⟨ba k.1, false, ⟨#[]⟩⟩])
  else ((k.2.1, true), cs)
def tL : Nat → Tk → List Ch → Tk × List Ch
  | 0, t, cs => (t, cs)
  | n + 1, t, cs => if (tC t cs).1.2 = true then tC t cs else tL n (tC t cs).1 (tC t cs).2
def readB (s : Bs) : Option (Bs × List Ch) :=
  if s.take 2 = [67, 83] ∧ 42 ≤ s.length ∧ crc (s.take (s.length - 4)) 0 = num (s.drop (s.length - 4)) then
    let b := s.drop 2
    let n := tN 4 ((b.take (b.length - 4)).drop 32, false)
    let r := tL n.1 n.2 []
    if r.1.2 = false ∧ r.1.1 = [] ∧ okC r.2 = true then some (b.take 32, r.2) else none
  else none
theorem tN_app (w n : Nat) (r : Bs) (hn : n < 256 ^ w) : tN w (be w n ++ r, false) = (n, r, false) := by
  have hl := be_len w n
  have h1 : ¬ (be w n ++ r).length < w := by rw [List.length_append, hl]; omega
  unfold tN
  show (if (be w n ++ r).length < w then 0 else num ((be w n ++ r).take w), (be w n ++ r).drop w, false || decide ((be w n ++ r).length < w)) = _
  rw [if_neg h1, decide_eq_false h1, List.take_left' hl, List.drop_left' hl, num_be w n hn]
  rfl
theorem tT_app (l r : Bs) (h : l.length < 65536) : tT (txtB l ++ r, false) = (l, r, false) := by
  have hl := be_len 2 l.length
  have e : textS (txtB l ++ r) = (l, r, 0) := by
    unfold textS txtB
    rw [List.append_assoc]
    rw [if_neg (by rw [List.length_append, hl]; omega), List.drop_left' hl, List.take_left' hl, num_be 2 l.length h]
    rw [if_neg (by rw [List.length_append]; omega), List.take_left' rfl, List.drop_left' rfl]
  unfold tT
  show ((textS (txtB l ++ r)).1, (textS (txtB l ++ r)).2.1, false || (textS (txtB l ++ r)).2.2 != 0) = _
  rw [e]; rfl
theorem okc_parts {c : Ch} (h : okc c = true) : c.f0.toList.length ≤ 48 ∧ c.f2.data.toList.length ≤ 160 ∧ (c.f1 = false → c.f2 = ⟨#[]⟩) := by
  unfold okc okK at h
  simp only [Bool.and_eq_true, Bool.or_eq_true, decide_eq_true_eq] at h
  refine ⟨?_, ?_, fun hf => ?_⟩
  · have := h.1.1.2
    rw [ByteArray.toList_eq, Array.length_toList]; exact this
  · rw [Array.length_toList]; exact h.1.2
  · rcases h.2 with h2 | h2
    · rw [hf] at h2; cases h2
    · exact bytes_inj (by rw [h2, ByteArray.toList_eq])
theorem tC_app (c : Ch) (hc : okc c = true) (cs : List Ch) (hu : notUp cs (ck c) = false) (r : Bs) : tC (chB c ++ r, false) cs = ((r, false), cs ++ [c]) := by
  obtain ⟨h0, h2, hf⟩ := okc_parts hc
  obtain ⟨f0, f1, f2⟩ := c
  have h0 : f0.toList.length ≤ 48 := h0
  have h2 : f2.data.toList.length ≤ 160 := h2
  have n1 : ∀ (b : UInt8) (x : Bs), tN 1 (b :: x, false) = (b.toNat, x, false) := fun b x => by
    have e : be 1 b.toNat = [b] := by
      have := be_num 1 [b] rfl
      rwa [show num [b] = b.toNat by simp [num]] at this
    have := tN_app 1 b.toNat x (by have := b.toNat_lt; omega)
    rwa [e] at this
  have ek : ba f0.toList = f0 := by rw [ByteArray.toList_eq]; exact data_ba f0
  have ev : ba f2.data.toList = f2 := data_ba f2
  cases f1 with
  | true =>
    rw [show chB ⟨f0, true, f2⟩ = 1 :: (txtB f0.toList ++ txtB f2.data.toList) from if_pos rfl]
    unfold tC
    show (let n := tN 1 (1 :: (txtB f0.toList ++ txtB f2.data.toList) ++ r, false); _) = _
    rw [List.cons_append, List.append_assoc, n1]
    show (if (1 : Nat) = 1 then _ else _) = _
    rw [if_pos rfl, tT_app f0.toList _ (by omega)]
    show (((tT (txtB f2.data.toList ++ r, false)).2.1, (tT (txtB f2.data.toList ++ r, false)).2.2 || notUp cs f0.toList), cs ++ [(⟨ba f0.toList, true, ba (tT (txtB f2.data.toList ++ r, false)).1⟩ : Ch)]) = _
    rw [tT_app _ _ (by have : f2.data.toList.length ≤ 160 := h2; omega)]
    show ((r, false || notUp cs f0.toList), cs ++ [(⟨ba f0.toList, true, ba f2.data.toList⟩ : Ch)]) = _
    rw [show notUp cs f0.toList = false from hu, ek, ev]
    rfl
  | false =>
    have hf2 : f2 = ⟨#[]⟩ := hf rfl
    subst hf2
    rw [show chB ⟨f0, false, ⟨#[]⟩⟩ = 0 :: txtB f0.toList from if_neg (show ¬ (false = true) by decide)]
    unfold tC
    show (let n := tN 1 (0 :: txtB f0.toList ++ r, false); _) = _
    rw [List.cons_append, n1]
    show (if (0 : Nat) = 1 then _ else if (0 : Nat) = 0 then _ else _) = _
    rw [if_neg (by decide), if_pos rfl, tT_app f0.toList _ (by omega)]
    show ((r, false || notUp cs f0.toList), cs ++ [(⟨ba f0.toList, false, ⟨#[]⟩⟩ : Ch)]) = _
    rw [show notUp cs f0.toList = false from hu, ek]
    rfl
def AscC (cs : List Ch) : Prop := cs.Pairwise (fun x y => Op.bytesLess (ck x) (ck y) = true)
theorem tL_app : ∀ (rest done : List Ch), (∀ c ∈ rest, okc c = true) → AscC (done ++ rest) → tL rest.length (rest.flatMap chB, false) done = (([], false), done ++ rest)
  | [], done, _, _ => by rw [List.append_nil]; rfl
  | c :: r, done, hok, ha => by
    have hu : notUp done (ck c) = false := by
      unfold notUp
      cases hl : done.getLast? with
      | none => rfl
      | some d =>
        have hd := List.mem_of_getLast? hl
        have := (List.pairwise_append.1 ha).2.2 d hd c (List.mem_cons_self ..)
        simp only [this]; rfl
    have hc := tC_app c (hok c (List.mem_cons_self ..)) done hu (r.flatMap chB)
    rw [List.flatMap_cons, List.length_cons, tL, hc]
    rw [if_neg (show ¬ (false = true) by decide)]
    have := tL_app r (done ++ [c]) (fun x hx => hok x (List.mem_cons_of_mem _ hx)) (by rw [List.append_assoc]; exact ha)
    rw [this, List.append_assoc]
    rfl
theorem bodyB_len (base : Bs) (cs : List Ch) (hb : base.length = 32) : 38 ≤ (bodyB base cs).length := by
  unfold bodyB
  simp only [List.length_append, be_len, hb, List.length_cons, List.length_nil]
  omega
theorem mid_eq {base X Y : Bs} (hb : base.length = 32) (hy : Y.length = 4) : ((base ++ X ++ Y).take ((base ++ X ++ Y).length - 4)).drop 32 = X := by
  have : (base ++ X ++ Y).length - 4 = (base ++ X).length := by rw [show (base ++ X ++ Y).length = (base ++ X).length + Y.length from List.length_append, hy]; omega
  rw [this, List.take_left' rfl, List.drop_left' hb]
theorem read_str {base : Bs} {cs : List Ch} (hb : base.length = 32) (hok : okC cs = true) (ha : AscC cs) (hn : cs.length < 4294967296) : readB (strB base cs) = some (base, cs) := by
  have hl := bodyB_len base cs hb
  have hlen : (strB base cs).length = (bodyB base cs).length + 4 := by unfold strB; rw [List.length_append, be_len]
  have h4 : (strB base cs).length - 4 = (bodyB base cs).length := by omega
  have htake : (strB base cs).take ((strB base cs).length - 4) = bodyB base cs := by rw [h4]; exact List.take_left' rfl
  have hdrop : (strB base cs).drop ((strB base cs).length - 4) = be 4 (crc (bodyB base cs) 0) := by rw [h4]; exact List.drop_left' rfl
  have h2 : (strB base cs).take 2 = [67, 83] := by unfold strB bodyB; rfl
  have hbd : (strB base cs).drop 2 = base ++ (be 4 cs.length ++ cs.flatMap chB) ++ be 4 (crc (bodyB base cs) 0) := by unfold strB bodyB; rfl
  unfold readB
  rw [if_pos ⟨h2, by omega, by rw [htake, hdrop, num_be 4 _ (crc_lt _ _ (by decide))]⟩]
  rw [hbd]
  have hb4 := mid_eq (X := be 4 cs.length ++ cs.flatMap chB) hb (be_len 4 (crc (bodyB base cs) 0))
  have hb32 : (base ++ (be 4 cs.length ++ cs.flatMap chB) ++ be 4 (crc (bodyB base cs) 0)).take 32 = base := by
    rw [List.append_assoc, List.take_left' hb]
  simp only [hb4, hb32]
  rw [tN_app 4 cs.length _ hn]
  have hL := tL_app cs [] (List.all_eq_true.1 hok) (by rw [List.nil_append]; exact ha)
  rw [List.nil_append] at hL
  simp only [hL]
  exact if_pos ⟨trivial, trivial, hok⟩
end Go.Proofs.YtfkofbabeghgkaaGreat.Z
end

section
namespace Go.Proofs.YtfkofbabeghgkaaGreat.Z
open Go.Proofs.YtfkofbabeghgkaaGreat.PM
structure TkS where
  left : ByteArray
  bad : Bool
  list : List Ch
def tkN (k : Nat) (t : TkS) (w : Int) : Option (Int × TkS) := (pack_TakeNumber.f k t.left w).bind fun r => some (r.1, ⟨r.2.1, t.bad || r.2.2 != 0, t.list⟩)
def tkT (k : Nat) (t : TkS) : Option (ByteArray × TkS) := (pack_TakeText.f k t.left).bind fun r => some (r.1, ⟨r.2.1, t.bad || r.2.2 != 0, t.list⟩)
def tkA (t : TkS) (c : Ch) : Option TkS := if t.list.length < 1099511627776 then some ⟨t.left, t.bad || notUp t.list (ck c), t.list ++ [c]⟩ else none
def tkC (k : Nat) (t : TkS) : Option TkS := (tkN k t 1).bind fun n => (tkT k n.2).bind fun x =>
  if n.1 = 1 then (tkT k x.2).bind fun v => tkA v.2 ⟨x.1, true, v.1⟩ else if n.1 = 0 then tkA x.2 ⟨x.1, false, ⟨#[]⟩⟩ else some ⟨x.2.left, true, x.2.list⟩
def tkL (k : Nat) : Nat → Int → TkS → Option TkS
  | 0, _, _ => none
  | m + 1, n, t => if n > 0 then (tkC k t).bind fun u => if u.bad = true then some u else tkL k m (IntKind.u64.wrap (n - 1)) u else some t
theorem tkN.mono (t : TkS) (w : Int) : ∀ k, LeO (tkN k t w) (tkN (k + 1) t w) := fun k => LeO.bind (pack_TakeNumber.mono _ _ _) (fun _ => LeO.refl _)
theorem tkT.mono (t : TkS) : ∀ k, LeO (tkT k t) (tkT (k + 1) t) := fun k => LeO.bind (pack_TakeText.mono _ _) (fun _ => LeO.refl _)
theorem tkC.mono (t : TkS) : ∀ k, LeO (tkC k t) (tkC (k + 1) t) := fun k =>
  LeO.bind (tkN.mono _ _ _) (fun _ => LeO.bind (tkT.mono _ _) (fun _ => LeO.ite (LeO.bind (tkT.mono _ _) (fun _ => LeO.refl _)) (LeO.refl _)))
theorem tkL.mono : ∀ (m : Nat) (n : Int) (t : TkS) (k : Nat), LeO (tkL k m n t) (tkL (k + 1) m n t)
  | 0, n, t, k => LeO.refl _
  | m + 1, n, t, k => by
    unfold tkL
    exact LeO.ite (LeO.bind (tkC.mono _ _) (fun u => LeO.ite (LeO.refl _) (tkL.mono m _ _ _))) (LeO.refl _)
def tkB (t : Tk) (cs : List Ch) : TkS := ⟨ba t.1, t.2, cs⟩
theorem tkN_f (t : Tk) (cs : List Ch) (w : Nat) (h1 : 1 ≤ w) (h8 : w ≤ 8) : Ev (fun k => tkN k (tkB t cs) (w : Int)) (((tN w t).1 : Int), tkB (tN w t).2 cs) := by
  unfold tkN tkB
  refine Ev.bind (tnum_f (ba t.1) w h1 h8) (Ev.const ?_)
  rw [ba_data]
  unfold tN ba3 takeS
  by_cases h : t.1.length < w
  · simp only [if_pos h, decide_eq_true h]
    rfl
  · simp only [if_neg h, decide_eq_false h]
    rfl
theorem tkT_f (t : Tk) (cs : List Ch) (hl : t.1.length ≤ 9223372036854775807) : Ev (fun k => tkT k (tkB t cs)) (ba (tT t).1, tkB (tT t).2 cs) := by
  unfold tkT tkB
  refine Ev.bind (ttext_f (ba t.1) (by rw [ba_size]; exact hl)) (Ev.const ?_)
  rw [ba_data]
  rfl
theorem tT_len (t : Tk) : (tT t).2.1.length ≤ t.1.length := by
  unfold tT textS
  by_cases h : t.1.length < 2
  · simp only [if_pos h]; exact Nat.zero_le _
  · simp only [if_neg h]
    by_cases h2 : (t.1.drop 2).length < num (t.1.take 2)
    · simp only [if_pos h2]; exact Nat.zero_le _
    · simp only [if_neg h2]
      rw [List.length_drop, List.length_drop]; omega
theorem tN_len (w : Nat) (t : Tk) : (tN w t).2.1.length ≤ t.1.length - w := by
  unfold tN
  simp only [List.length_drop]; exact Nat.le_refl _
theorem ck_ba (l : Bs) (b : Bool) (v : ByteArray) : ck (⟨ba l, b, v⟩ : Ch) = l := ba_toList l
theorem tkC_f (t : Tk) (cs : List Ch) (hl : t.1.length ≤ 9223372036854775807) (hc : cs.length < 1099511627776) : Ev (fun k => tkC k (tkB t cs)) (tkB (tC t cs).1 (tC t cs).2) := by
  unfold tkC
  have a1 := tN_len 1 t
  have a2 := tT_len (tN 1 t).2
  refine Ev.bind (tkN_f t cs 1 (by decide) (by decide)) ?_
  refine Ev.bind (tkT_f (tN 1 t).2 cs (by omega)) ?_
  unfold tC
  by_cases h1 : (tN 1 t).1 = 1
  · refine Ev.ifp (show ((tN 1 t).1 : Int) = 1 by omega) ?_
    simp only [if_pos h1]
    refine Ev.bind (tkT_f (tT (tN 1 t).2).2 cs (by omega)) (Ev.const ?_)
    unfold tkA tkB
    simp only [if_pos hc]
    rw [ck_ba]
  · refine Ev.ifn (show ¬ ((tN 1 t).1 : Int) = 1 by omega) ?_
    simp only [if_neg h1]
    by_cases h0 : (tN 1 t).1 = 0
    · refine Ev.ifp (show ((tN 1 t).1 : Int) = 0 by omega) (Ev.const ?_)
      simp only [if_pos h0]
      unfold tkA tkB
      simp only [if_pos hc]
      rw [ck_ba]
    · refine Ev.ifn (show ¬ ((tN 1 t).1 : Int) = 0 by omega) (Ev.const ?_)
      simp only [if_neg h0]
      rfl
theorem tC_less (t : Tk) (cs : List Ch) (h : (tC t cs).1.2 = false) : (tC t cs).1.1.length < t.1.length := by
  have a1 := tN_len 1 t
  have a2 := tT_len (tN 1 t).2
  have a3 := tT_len (tT (tN 1 t).2).2
  have key : (tN 1 t).2.2 = false → 0 < t.1.length := fun hq => by
    have hq : (t.2 || decide (t.1.length < 1)) = false := hq
    rw [Bool.or_eq_false_iff, decide_eq_false_iff_not] at hq
    omega
  have tb : ∀ u : Tk, (tT u).2.2 = false → u.2 = false := fun u hq => by
    have hq : (u.2 || (textS u.1).2.2 != 0) = false := hq
    rw [Bool.or_eq_false_iff] at hq
    exact hq.1
  unfold tC at h ⊢
  by_cases h1 : (tN 1 t).1 = 1
  · simp only [if_pos h1] at h ⊢
    rw [Bool.or_eq_false_iff] at h
    have := key (tb _ (tb _ h.1))
    omega
  · simp only [if_neg h1] at h ⊢
    by_cases h0 : (tN 1 t).1 = 0
    · simp only [if_pos h0] at h ⊢
      rw [Bool.or_eq_false_iff] at h
      have := key (tb _ h.1)
      omega
    · simp only [if_neg h0] at h
      cases h
theorem tC_list (t : Tk) (cs : List Ch) : (tC t cs).2.length ≤ cs.length + 1 := by
  unfold tC
  by_cases h1 : (tN 1 t).1 = 1
  · simp only [if_pos h1, List.length_append, List.length_singleton]; exact Nat.le_refl _
  · simp only [if_neg h1]
    by_cases h0 : (tN 1 t).1 = 0
    · simp only [if_pos h0, List.length_append, List.length_singleton]; exact Nat.le_refl _
    · simp only [if_neg h0]; exact Nat.le_succ _
theorem tkL_f : ∀ (m : Nat) (n : Nat) (t : Tk) (cs : List Ch), n < 18446744073709551616 → t.1.length < m → t.1.length ≤ 9223372036854775807 → cs.length + t.1.length < 1099511627776 → Ev (fun k => tkL k (m + 1) (n : Int) (tkB t cs)) (tkB (tL n t cs).1 (tL n t cs).2)
  | m, 0, t, cs, _, _, _, _ => by
    refine Ev.congr (fun k => by rw [tkL]) ?_
    exact Ev.ifn (show ¬ ((0 : Nat) : Int) > 0 by decide) (Ev.const rfl)
  | 0, n + 1, t, cs, _, h, _, _ => absurd h (Nat.not_lt_zero _)
  | m + 1, n + 1, t, cs, hn, hm, hl, hc => by
    refine Ev.congr (fun k => by rw [tkL]) ?_
    refine Ev.ifp (by omega) ?_
    refine Ev.bind (tkC_f t cs hl (by omega)) ?_
    rw [tL]
    by_cases hb : (tC t cs).1.2 = true
    · rw [if_pos hb]
      exact Ev.ifp hb (Ev.const rfl)
    · rw [if_neg hb]
      refine Ev.ifn hb ?_
      have hls := tC_less t cs ((Bool.not_eq_true _).mp hb)
      have hll := tC_list t cs
      rw [show (((n + 1 : Nat) : Int) - 1) = (n : Int) by omega, show IntKind.u64.wrap (n : Int) = (n : Int) from IntWalk.u64_in _ ⟨by omega, by omega⟩]
      exact tkL_f m n _ _ (by omega) (by omega) (by omega) (by omega)
end Go.Proofs.YtfkofbabeghgkaaGreat.Z
end

section
namespace Go.Proofs.YtfkofbabeghgkaaGreat.Z
open Go.Proofs.YtfkofbabeghgkaaGreat.PM
def ints (l : Bs) : List Int := l.map (fun b => (b.toNat : Int))
def readF (k : Nat) (s : ByteArray) : Option (Option (List Int × List Ch)) :=
  if s.data.toList.take 2 = [67, 83] ∧ 42 ≤ s.size then
    (pack_TakeNumber.f k (ba (s.data.toList.drop (s.data.toList.length - 4))) 4).bind fun q =>
      if sumC (ba (s.data.toList.take (s.data.toList.length - 4))) (ba (s.data.toList.take (s.data.toList.length - 4))).size 0 0 = q.1 then
        (tkN k ⟨ba ((((s.data.toList.drop 2).take ((s.data.toList.drop 2).length - 4)).drop 32)), false, []⟩ 4).bind fun n =>
          (tkL k (s.size + 1) n.1 n.2).bind fun t =>
            if t.bad = true then some none else if t.left.toList = [] then (item_CheckChanges.f k t.list).bind fun c => if c = 0 then some (some (ints ((s.data.toList.drop 2).take 32), t.list)) else some none
            else some none
      else some none
  else some none
theorem readF.mono (s : ByteArray) : ∀ k, LeO (readF k s) (readF (k + 1) s) := fun k => by
  unfold readF
  exact LeO.ite (LeO.bind (pack_TakeNumber.mono _ _ _) (fun _ => LeO.ite (LeO.bind (tkN.mono _ _ _) (fun _ => LeO.bind (tkL.mono _ _ _ _) (fun _ => LeO.ite (LeO.refl _) (LeO.ite (LeO.bind (item_CheckChanges.mono _ _) (fun _ => LeO.refl _)) (LeO.refl _))))) (LeO.refl _))) (LeO.refl _)
theorem tN4_lt (t : Tk) : (tN 4 t).1 < 18446744073709551616 := by
  show (if t.1.length < 4 then 0 else num (t.1.take 4)) < _
  by_cases h : t.1.length < 4
  · rw [if_pos h]
    exact Nat.zero_lt_succ _
  · rw [if_neg h]
    have := num_lt 4 (t.1.take 4) (by rw [List.length_take]; omega)
    omega
theorem tL_list : ∀ (n : Nat) (t : Tk) (cs : List Ch), (tL n t cs).2.length ≤ cs.length + t.1.length + 1
  | 0, t, cs => by rw [tL]; show cs.length ≤ _; omega
  | n + 1, t, cs => by
    rw [tL]
    have h1 := tC_list t cs
    by_cases hb : (tC t cs).1.2 = true
    · rw [if_pos hb]; omega
    · rw [if_neg hb]
      have h2 := tC_less t cs ((Bool.not_eq_true _).mp hb)
      have := tL_list n (tC t cs).1 (tC t cs).2
      omega
theorem readF_f (s : ByteArray) (hs : s.size ≤ 1073741824) : Ev (fun k => readF k s) ((readB s.data.toList).map (fun r => (ints r.1, r.2))) := by
  have hz : s.size = s.data.toList.length := by rw [Array.length_toList]; rfl
  unfold readF readB
  generalize s.data.toList = l at hz ⊢
  by_cases hp : l.take 2 = [67, 83] ∧ 42 ≤ s.size
  · refine Ev.ifp hp ?_
    have hd4 : (l.drop (l.length - 4)).length = 4 := by rw [List.length_drop]; omega
    refine Ev.bind (tnum_f _ 4 (by decide) (by decide)) ?_
    rw [ba_data]
    have e4 : (ba3 (takeS 4 (l.drop (l.length - 4)))).1 = (num (l.drop (l.length - 4)) : Int) := by
      unfold ba3 takeS
      rw [if_neg (by omega), List.take_of_length_le (by omega)]
    rw [e4, sum_nat, ba_data]
    by_cases hc : crc (l.take (l.length - 4)) 0 = num (l.drop (l.length - 4))
    · refine Ev.ifp (by rw [hc]) ?_
      rw [if_pos ⟨hp.1, by omega, hc⟩]
      dsimp only
      have hn := tkN_f ((((l.drop 2).take ((l.drop 2).length - 4)).drop 32), false) [] 4 (by decide) (by decide)
      refine Ev.bind hn ?_
      have hlen : (((l.drop 2).take ((l.drop 2).length - 4)).drop 32).length ≤ l.length := by
        simp only [List.length_drop, List.length_take]; omega
      have h2 := tN_len 4 ((((l.drop 2).take ((l.drop 2).length - 4)).drop 32), false)
      have h5 : (tN 4 ((((l.drop 2).take ((l.drop 2).length - 4)).drop 32), false)).1 < 18446744073709551616 := tN4_lt _
      generalize htt : tN 4 ((((l.drop 2).take ((l.drop 2).length - 4)).drop 32), false) = nt at h2 h5 ⊢
      have hl2 : nt.2.1.length < s.size := by
        have : nt.2.1.length ≤ (((l.drop 2).take ((l.drop 2).length - 4)).drop 32).length - 4 := h2
        omega
      refine Ev.bind (tkL_f s.size nt.1 nt.2 [] h5 hl2 (by omega) (by rw [List.length_nil]; omega)) ?_
      have hll := tL_list nt.1 nt.2 []
      rw [List.length_nil] at hll
      generalize tL nt.1 nt.2 [] = r at hll ⊢
      by_cases hb : r.1.2 = true
      · refine Ev.ifp hb (Ev.const ?_)
        rw [if_neg (fun h => by rw [hb] at h; exact absurd h.1 (by decide))]; rfl
      · have hb2 := (Bool.not_eq_true _).mp hb
        refine Ev.ifn hb ?_
        by_cases hl0 : r.1.1 = []
        · refine Ev.ifp (show (ba r.1.1).toList = [] by rw [ba_toList]; exact hl0) ?_
          refine Ev.bind (itCheckC r.2 (by omega)) ?_
          by_cases hok : okC r.2 = true
          · refine Ev.val (a := some (ints ((l.drop 2).take 32), r.2)) ?_ ?_
            · rw [hok]
              exact Ev.ifp (c := ckS true = 0) rfl (Ev.const rfl)
            · rw [if_pos (show r.1.2 = false ∧ r.1.1 = [] ∧ okC r.2 = true from ⟨hb2, hl0, hok⟩)]; rfl
          · refine Ev.val (a := none) ?_ ?_
            · rw [(Bool.not_eq_true _).mp hok]
              exact Ev.ifn (c := ckS false = 0) (by decide) (Ev.const rfl)
            · rw [if_neg (show ¬ (r.1.2 = false ∧ r.1.1 = [] ∧ okC r.2 = true) from fun h => hok h.2.2)]; rfl
        · refine Ev.ifn (show ¬ (ba r.1.1).toList = [] by rw [ba_toList]; exact hl0) (Ev.const ?_)
          rw [if_neg (fun h => hl0 h.2.1)]; rfl
    · refine Ev.ifn (fun h => hc (by omega)) (Ev.const ?_)
      rw [if_neg (fun h => hc h.2.2)]; rfl
  · refine Ev.ifn hp (Ev.const ?_)
    rw [if_neg (fun h => hp ⟨h.1, by omega⟩)]; rfl
end Go.Proofs.YtfkofbabeghgkaaGreat.Z
end

section
namespace Go.Proofs.YtfkofbabeghgkaaGreat.Z
open Go.Proofs.YtfkofbabeghgkaaGreat.PM
theorem outF_range (h : List Int) : ∀ x ∈ outF h, 0 ≤ x ∧ x < 256 := by
  intro x hx
  obtain ⟨i, _, rfl⟩ := List.mem_map.1 hx
  unfold outV
  rw [IntKind.wrap_u8]
  omega
theorem hash_range {k : Nat} {s : ByteArray} {r : List Int} (h : hash_Sum.f k s = some r) : ∀ x ∈ r, 0 ≤ x ∧ x < 256 := by
  unfold hash_Sum.f at h
  obtain ⟨t, _, h⟩ := Option.bind_eq_some_iff.mp h
  by_cases hc : s.size + t.size ≤ 9223372036854775807
  · rw [if_pos hc] at h
    obtain ⟨q, _, h⟩ := Option.bind_eq_some_iff.mp h
    rw [← Option.some.inj h]
    exact outF_range q
  · rw [if_neg hc] at h; cases h
noncomputable def hS (s : ByteArray) : List Int := if h : s.size ≤ 4611686018427387904 then Classical.choose (hash_ev s h) else List.replicate 32 0
theorem hS_ev (s : ByteArray) (h : s.size ≤ 4611686018427387904) : Ev (fun k => hash_Sum.f k s) (hS s) := by
  unfold hS
  rw [dif_pos h]
  exact (Classical.choose_spec (hash_ev s h)).1
theorem hS_len (s : ByteArray) : (hS s).length = 32 := by
  unfold hS
  by_cases h : s.size ≤ 4611686018427387904
  · rw [dif_pos h]; exact (Classical.choose_spec (hash_ev s h)).2
  · rw [dif_neg h, List.length_replicate]
theorem hS_range (s : ByteArray) : ∀ x ∈ hS s, 0 ≤ x ∧ x < 256 := by
  by_cases h : s.size ≤ 4611686018427387904
  · obtain ⟨k, hk⟩ := hS_ev s h
    exact hash_range (hk k (Nat.le_refl _))
  · unfold hS
    rw [dif_neg h]
    intro x hx
    rw [(List.mem_replicate.1 hx).2]; decide
theorem hS_is {s : ByteArray} {r : List Int} {k : Nat} (h : s.size ≤ 4611686018427387904) (hr : hash_Sum.f k s = some r) : hS s = r := by
  refine Ev.both (hS_ev s h) ⟨k, fun m hm => ?_⟩
  obtain ⟨d, rfl⟩ := Nat.exists_eq_add_of_le hm
  clear hm
  induction d with
  | zero => exact hr
  | succ d ih => exact hash_Sum.mono _ _ _ ih
def octs (l : List Int) : Bs := l.map (fun n => UInt8.ofNat n.toNat)
theorem ints_bytes {l : List Int} (h : ∀ x ∈ l, 0 ≤ x ∧ x < 256) : ints (octs l) = l := by
  unfold ints octs
  rw [List.map_map]
  refine (List.map_congr_left (fun x hx => ?_)).trans (List.map_id l)
  have hx := h x hx
  show (((UInt8.ofNat x.toNat).toNat : Nat) : Int) = x
  rw [UInt8.toNat_ofNat', Nat.mod_eq_of_lt (by omega)]
  omega
theorem ints_inj : ∀ {a b : Bs}, ints a = ints b → a = b
  | [], [], _ => rfl
  | [], _ :: _, h => by cases h
  | _ :: _, [], h => by cases h
  | x :: a, y :: b, h => by
    unfold ints at h
    rw [List.map_cons, List.map_cons] at h
    have hc := List.cons.inj h
    rw [UInt8.toNat_inj.1 (Int.ofNat.inj hc.1), ints_inj (a := a) (b := b) hc.2]
def itB (x : It) : Bs := txtB (key x) ++ txtB x.f1.data.toList
def mtF (k : Nat) (acc : Bs) (s : ByteArray) : Option Bs := (pack_Text.f k s).bind fun t => if acc.length + t.1.size ≤ 140737488355328 then some (acc ++ t.1.data.toList) else none
def mkL (k : Nat) : List It → Bs → Option Bs
  | [], acc => some acc
  | x :: r, acc => (mtF k acc x.f0).bind fun a => (mtF k a x.f1).bind fun b => mkL k r b
def markF (k : Nat) (l : List It) : Option (List Int × Int) := (item_Check.f k l).bind fun c => if c = 0 then (mkL k l []).bind fun b => (hash_Sum.f k (ba b)).bind fun h => some (h, 0) else some (List.replicate 32 0, c)
theorem mtF.mono (acc : Bs) (s : ByteArray) : ∀ k, LeO (mtF k acc s) (mtF (k + 1) acc s) := fun k => LeO.bind (pack_Text.mono _ _) (fun _ => LeO.refl _)
theorem mkL.mono : ∀ (l : List It) (acc : Bs) (k : Nat), LeO (mkL k l acc) (mkL (k + 1) l acc)
  | [], acc, k => LeO.refl _
  | x :: r, acc, k => by
    unfold mkL
    exact LeO.bind (mtF.mono _ _ _) (fun a => LeO.bind (mtF.mono _ _ _) (fun b => mkL.mono r b k))
theorem markF.mono (l : List It) : ∀ k, LeO (markF k l) (markF (k + 1) l) := fun k =>
  LeO.bind (item_Check.mono _ _) (fun _ => LeO.ite (LeO.bind (mkL.mono _ _ _) (fun _ => LeO.bind (hash_Sum.mono _ _) (fun _ => LeO.refl _))) (LeO.refl _))
theorem txtB_len (l : Bs) : (txtB l).length = l.length + 2 := by
  unfold txtB
  rw [List.length_append, be_len]; omega
theorem mtF_f (acc : Bs) (s : ByteArray) (hs : s.size ≤ 65535) (ha : acc.length + (txtB s.data.toList).length ≤ 140737488355328) : Ev (fun k => mtF k acc s) (acc ++ txtB s.data.toList) := by
  unfold mtF
  refine Ev.bind (text_f s hs) (Ev.const ?_)
  rw [ba_data, ba_size]
  exact if_pos ha
theorem mkL_f : ∀ (l : List It) (acc : Bs), (∀ x ∈ l, x.f0.size ≤ 65535 ∧ x.f1.size ≤ 65535) → acc.length + (l.flatMap itB).length ≤ 140737488355328 → Ev (fun k => mkL k l acc) (acc ++ l.flatMap itB)
  | [], acc, _, _ => Ev.congr (fun k => by rw [mkL]) (Ev.const (by rw [List.flatMap_nil, List.append_nil]))
  | x :: r, acc, h, hb => by
    have hx := h x (List.mem_cons_self ..)
    have e0 : key x = x.f0.data.toList := ByteArray.toList_eq _
    rw [List.flatMap_cons, List.length_append] at hb
    have hi : (itB x).length = (txtB x.f0.data.toList).length + (txtB x.f1.data.toList).length := by
      unfold itB
      rw [List.length_append, e0]
    refine Ev.congr (fun k => by rw [mkL]) ?_
    refine Ev.bind (mtF_f acc x.f0 hx.1 (by omega)) ?_
    refine Ev.bind (mtF_f _ x.f1 hx.2 (by rw [List.length_append]; omega)) ?_
    refine Ev.val (mkL_f r _ (fun y hy => h y (List.mem_cons_of_mem _ hy)) (by simp only [List.length_append]; omega)) ?_
    rw [List.flatMap_cons]
    unfold itB
    rw [show key x = x.f0.data.toList from ByteArray.toList_eq _]
    simp only [List.append_assoc]
noncomputable def mkB (l : List It) : List Int := hS (ba (l.flatMap itB))
theorem itB_len {l : List It} (h : ∀ x ∈ l, x.f0.size ≤ 48 ∧ x.f1.size ≤ 160) : (l.flatMap itB).length ≤ 212 * l.length := by
  induction l with
  | nil => simp
  | cons x r ih =>
    have hx := h x (List.mem_cons_self ..)
    have := ih (fun y hy => h y (List.mem_cons_of_mem _ hy))
    rw [List.flatMap_cons, List.length_append, List.length_cons]
    have e : (itB x).length = 4 + x.f0.size + x.f1.size := by
      unfold itB txtB
      rw [show key x = x.f0.data.toList from ByteArray.toList_eq _]
      simp only [List.length_append, be_len, Array.length_toList]
      show 2 + x.f0.size + (2 + x.f1.size) = _
      omega
    omega
theorem markF_f {l : List It} (hl : l.length ≤ 1073741824) : Ev (fun k => markF k l) (if okL l = true then (mkB l, 0) else (List.replicate 32 0, 4)) := by
  unfold markF
  refine Ev.bind (itCheck l (by omega)) ?_
  by_cases hok : okL l = true
  · rw [if_pos hok, hok]
    have hs : ∀ x ∈ l, x.f0.size ≤ 48 ∧ x.f1.size ≤ 160 := fun x hx => by
      have := ((okL_iff l).1 hok).1 x hx
      unfold okI okK at this
      simp only [Bool.and_eq_true, decide_eq_true_eq] at this
      exact ⟨this.1.2, this.2⟩
    have hb := itB_len hs
    refine Ev.ifp (c := ckS true = 0) rfl ?_
    refine Ev.bind (mkL_f l [] (fun x hx => by have := hs x hx; omega) (by rw [List.length_nil]; omega)) ?_
    rw [List.nil_append]
    exact Ev.bind (hS_ev _ (by rw [ba_size]; omega)) (Ev.const rfl)
  · rw [if_neg hok, (Bool.not_eq_true _).mp hok]
    exact Ev.ifn (c := ckS false = 0) (by decide) (Ev.const rfl)
end Go.Proofs.YtfkofbabeghgkaaGreat.Z
end

section
namespace Go.Proofs.YtfkofbabeghgkaaGreat.Z
theorem diff_ok {a b : List It} (ha : okL a = true) (hb : okL b = true) : ∀ c ∈ diffL a b, okc c = true := by
  refine diffL_each (fun x hx => ?_) (fun y hy => ?_)
  · have := ((okL_iff a).1 ha).1 x hx
    unfold okI at this
    rw [Bool.and_eq_true] at this
    unfold okc dl
    have t0 : (⟨#[]⟩ : ByteArray).toList = [] := by rw [ByteArray.toList_eq]
    have s0 : (⟨#[]⟩ : ByteArray).size = 0 := rfl
    simp [this.1, t0, s0]
  · have := ((okL_iff b).1 hb).1 y hy
    unfold okI at this
    unfold okc ad
    simpa using this
theorem diff_okC {a b : List It} (ha : okL a = true) (hb : okL b = true) : okC (diffL a b) = true := List.all_eq_true.2 (diff_ok ha hb)
theorem diff_asc : ∀ {a b : List It}, Asc a → Asc b → (diffL a b).Pairwise (fun c d => Op.bytesLess (ck c) (ck d) = true)
  | a, [], ha, hb => by
    rw [diffL]
    unfold Asc at ha
    exact List.pairwise_map.2 ha
  | [], y :: b, ha, hb => by
    rw [diffL]
    refine List.pairwise_cons.2 ⟨fun c hc => ?_, diff_asc ha hb.cons.2⟩
    rcases diffL_key hc with ⟨z, hz, e⟩ | ⟨z, hz, e⟩
    · cases hz
    · rw [e]; exact hb.cons.1 z hz
  | x :: a, y :: b, ha, hb => by
    have hx := ha.cons.1
    have hy := hb.cons.1
    rw [diffL]
    split
    next hlt =>
      refine List.pairwise_cons.2 ⟨fun c hc => ?_, diff_asc ha.cons.2 hb⟩
      rcases diffL_key hc with ⟨z, hz, e⟩ | ⟨z, hz, e⟩
      · rw [e]; exact hx z hz
      · rw [e]
        rcases List.mem_cons.1 hz with rfl | hz
        · exact hlt
        · exact bl_trans hlt (hy z hz)
    next hnlt =>
      split
      next hk =>
        split
        · exact diff_asc ha.cons.2 hb.cons.2
        · refine List.pairwise_cons.2 ⟨fun c hc => ?_, diff_asc ha.cons.2 hb.cons.2⟩
          rcases diffL_key hc with ⟨z, hz, e⟩ | ⟨z, hz, e⟩
          · rw [e, show ck (ad y) = key y from rfl, ← hk]; exact hx z hz
          · rw [e]; exact hy z hz
      next hk =>
        have hgt : Op.bytesLess (key y) (key x) = true := by
          rcases bl_total (key x) (key y) with e | e | e
          · exact absurd e hk
          · exact absurd e hnlt
          · exact e
        refine List.pairwise_cons.2 ⟨fun c hc => ?_, diff_asc ha hb.cons.2⟩
        rcases diffL_key hc with ⟨z, hz, e⟩ | ⟨z, hz, e⟩
        · rw [e]
          rcases List.mem_cons.1 hz with rfl | hz
          · exact hgt
          · exact bl_trans hgt (hx z hz)
        · rw [e]; exact hy z hz
termination_by a b => a.length + b.length
theorem diff_back : ∀ {a b : List It} (pre : List It), Asc (pre ++ a) → Asc (pre ++ b) → apl (pre ++ a) (diffL a b) = pre ++ b
  | a, [], pre, ha, hb => by
    rw [diffL]
    induction a with
    | nil => rfl
    | cons x a ih =>
      have h1 : put (pre ++ x :: a) (dl x) = pre ++ a := by
        have hp : pre ++ x :: a = pre ++ [x] ++ a := by simp
        rw [hp, put_parts (c := dl x) (fun z hz => ha.parts.2.2 z hz x (List.mem_cons_self ..)) (fun z hz => by rw [List.mem_singleton.1 hz]; rfl) (ha.parts.2.1.cons.1)]
        simp [new_, dl]
      simp only [List.map_cons, apl, List.foldl_cons]
      rw [h1]
      exact ih (ha.parts.1.app ha.parts.2.1.cons.2 (fun z hz w hw => ha.parts.2.2 z hz w (List.mem_cons_of_mem _ hw)))
  | [], y :: b, pre, ha, hb => by
    rw [diffL]
    have h1 : put (pre ++ []) (ad y) = (pre ++ [y]) ++ [] := by
      have hp : pre ++ ([] : List It) = pre ++ [] ++ [] := by simp
      rw [hp, put_parts (c := ad y) (fun z hz => hb.parts.2.2 z hz y (List.mem_cons_self ..)) (by simp) (by simp)]
      simp [new_, ad]
    simp only [apl, List.foldl_cons]
    rw [h1]
    have h2 : pre ++ y :: b = (pre ++ [y]) ++ b := by simp
    rw [h2] at hb ⊢
    exact diff_back (pre ++ [y]) (by simpa using hb.parts.1) hb
  | x :: a, y :: b, pre, ha, hb => by
    rw [diffL]
    have hx := ha.parts.2.1.cons.1
    have hy := hb.parts.2.1.cons.1
    have h2 : pre ++ y :: b = (pre ++ [y]) ++ b := by simp
    have h3 : pre ++ x :: a = pre ++ [x] ++ a := by simp
    split
    next hlt =>
      have h1 : put (pre ++ x :: a) (dl x) = pre ++ a := by
        rw [h3, put_parts (c := dl x) (fun z hz => ha.parts.2.2 z hz x (List.mem_cons_self ..)) (fun z hz => by rw [List.mem_singleton.1 hz]; rfl) hx]
        simp [new_, dl]
      simp only [apl, List.foldl_cons]
      rw [h1]
      exact diff_back pre (ha.parts.1.app ha.parts.2.1.cons.2 (fun z hz w hw => ha.parts.2.2 z hz w (List.mem_cons_of_mem _ hw))) hb
    next hnlt =>
      split
      next hk =>
        split
        next hv =>
          obtain rfl : x = y := it_ext hk hv
          rw [h3, h2]
          exact diff_back (pre ++ [x]) (h3 ▸ ha) (h2 ▸ hb)
        next hv =>
          have hc : ck (ad y) = key x := hk.symm
          have h1 : put (pre ++ x :: a) (ad y) = pre ++ [y] ++ a := by
            rw [h3, put_parts (c := ad y) (fun z hz => by rw [hc]; exact ha.parts.2.2 z hz x (List.mem_cons_self ..)) (fun z hz => by rw [List.mem_singleton.1 hz, hc]) (fun z hz => by rw [hc]; exact hx z hz)]
            simp [new_, ad]
          simp only [apl, List.foldl_cons]
          rw [h1, h2]
          refine diff_back (pre ++ [y]) ?_ (h2 ▸ hb)
          have hb2 : Asc (pre ++ [y]) := (h2 ▸ hb : Asc ((pre ++ [y]) ++ b)).parts.1
          refine hb2.app ha.parts.2.1.cons.2 (fun z hz w hw => ?_)
          rcases List.mem_append.1 hz with hz | hz
          · exact ha.parts.2.2 z hz w (List.mem_cons_of_mem _ hw)
          · rw [List.mem_singleton.1 hz, ← hk]; exact hx w hw
      next hk =>
        have hgt : Op.bytesLess (key y) (key x) = true := by
          rcases bl_total (key x) (key y) with e | e | e
          · exact absurd e hk
          · exact absurd e hnlt
          · exact e
        have hxa : ∀ z ∈ x :: a, Op.bytesLess (key y) (key z) = true := fun z hz => by
          rcases List.mem_cons.1 hz with rfl | hz
          · exact hgt
          · exact bl_trans hgt (hx z hz)
        have h1 : put (pre ++ x :: a) (ad y) = pre ++ [y] ++ (x :: a) := by
          have hp : pre ++ x :: a = pre ++ [] ++ (x :: a) := by simp
          rw [hp, put_parts (c := ad y) (fun z hz => hb.parts.2.2 z hz y (List.mem_cons_self ..)) (by simp) hxa]
          simp [new_, ad]
        simp only [apl, List.foldl_cons]
        rw [h1, h2]
        refine diff_back (pre ++ [y]) ?_ (h2 ▸ hb)
        have hb2 : Asc (pre ++ [y]) := (h2 ▸ hb : Asc ((pre ++ [y]) ++ b)).parts.1
        refine hb2.app ha.parts.2.1 (fun z hz w hw => ?_)
        rcases List.mem_append.1 hz with hz | hz
        · exact ha.parts.2.2 z hz w hw
        · rw [List.mem_singleton.1 hz]; exact hxa w hw
termination_by a b => a.length + b.length
end Go.Proofs.YtfkofbabeghgkaaGreat.Z
end

section
namespace Go.Proofs.YtfkofbabeghgkaaGreat.Z
open Go.Proofs.YtfkofbabeghgkaaGreat.PM
section
variable (mk : List It → Bs) (rt : List It → Bool)
def mayB (l : List It) : Bool := l.isEmpty || rt l
def sendB (a b : List It) : Option Bs := if mayB rt a = true ∧ rt b = true then some (strB (mk a) (diffL a b)) else none
def recvB (l : List It) (s : Bs) : Option (List It) := if mayB rt l = true then (match readB s with
  | none => none
  | some r => if r.1 = mk l ∧ rt (apl l r.2) = true then some (apl l r.2) else none) else none
variable {mk rt}
theorem may_ok (hrt : ∀ l, rt l = true → okL l = true) {l : List It} (h : mayB rt l = true) : okL l = true := by
  unfold mayB at h
  rw [Bool.or_eq_true] at h
  rcases h with h | h
  · rw [List.isEmpty_iff.1 h]; rfl
  · exact hrt l h
theorem apl_diff {a b : List It} (ha : okL a = true) (hb : okL b = true) : apl a (diffL a b) = b := by
  have := diff_back (a := a) (b := b) [] (by rw [List.nil_append]; exact ((okL_iff a).1 ha).2) (by rw [List.nil_append]; exact ((okL_iff b).1 hb).2)
  rwa [List.nil_append, List.nil_append] at this
theorem read_sent (hmk : ∀ l, (mk l).length = 32) (hrt : ∀ l, rt l = true → okL l = true) {a b : List It} (hl : a.length + b.length < 4294967296) {s : Bs} (h : sendB mk rt a b = some s) :
    okL a = true ∧ okL b = true ∧ rt b = true ∧ mayB rt a = true ∧ s = strB (mk a) (diffL a b) ∧ readB s = some (mk a, diffL a b) := by
  unfold sendB at h
  by_cases hc : mayB rt a = true ∧ rt b = true
  · rw [if_pos hc] at h
    have ha := may_ok hrt hc.1
    have hb := hrt b hc.2
    have e := (Option.some.inj h).symm
    refine ⟨ha, hb, hc.2, hc.1, e, ?_⟩
    rw [e]
    exact read_str (hmk a) (diff_okC ha hb) (diff_asc ((okL_iff a).1 ha).2 ((okL_iff b).1 hb).2) (by have := diffL_len a b; omega)
  · rw [if_neg hc] at h; cases h
theorem recv_sent (hmk : ∀ l, (mk l).length = 32) (hrt : ∀ l, rt l = true → okL l = true) {a b : List It} (hl : a.length + b.length < 4294967296) {s : Bs} (h : sendB mk rt a b = some s) : recvB mk rt a s = some b := by
  obtain ⟨ha, hb, hrb, hma, _, hr⟩ := read_sent hmk hrt hl h
  unfold recvB
  rw [if_pos hma, hr]
  show (if mk a = mk a ∧ rt (apl a (diffL a b)) = true then some (apl a (diffL a b)) else none) = _
  rw [apl_diff ha hb]
  exact if_pos ⟨rfl, hrb⟩
theorem read_more {more s : Bs} (h1 : more ≠ []) (h2 : more.take 2 ≠ [67, 83]) (hs : s.take 2 = [67, 83]) : readB (more ++ s) = none := by
  unfold readB
  refine if_neg (fun h => ?_)
  obtain ⟨x, r, rfl⟩ := List.exists_cons_of_ne_nil h1
  cases r with
  | cons y r => exact h2 h.1
  | nil =>
    match s, hs with
    | c :: d :: t, hs =>
      have e := h.1
      have hs : [c, d] = [67, 83] := hs
      have e : [x, c] = [67, 83] := e
      have a1 := (List.cons.inj (List.cons.inj e).2).1
      have a2 := (List.cons.inj hs).1
      rw [a2] at a1
      exact absurd a1 (by decide)
end
end Go.Proofs.YtfkofbabeghgkaaGreat.Z
end

section
namespace Go.Proofs.YtfkofbabeghgkaaGreat.PM
def pre (a : List UInt8) : List (List UInt8) → List (List UInt8)
  | h :: t => (a ++ h) :: t
  | [] => [a]
end Go.Proofs.YtfkofbabeghgkaaGreat.PM
end

section
namespace Go.Proofs.YtfkofbabeghgkaaGreat.Z
open Go.Proofs.YtfkofbabeghgkaaGreat.PM
def numS (v : ByteArray) : Int := if v.data.toList.length = 4 then (if (num v.data.toList : Int) ≤ 1 then 0 else num v.data.toList) else 0
theorem numS_f (v : ByteArray) : Ev (fun k => dirs_number.f k v) (numS v) := by
  unfold dirs_number.f
  refine Ev.bind (tnum_f v 4 (by decide) (by decide)) ?_
  unfold numS ba3 takeS
  by_cases h : v.data.toList.length < 4
  · refine Ev.ifn (by simp only [if_pos h]; decide) (Ev.const ?_)
    rw [if_neg (by omega)]
  · refine Ev.ifp (by simp only [if_neg h]) ?_
    by_cases h4 : v.data.toList.length = 4
    · have hd : v.data.toList.drop 4 = [] := List.drop_eq_nil_of_le (by omega)
      have ht : v.data.toList.take 4 = v.data.toList := List.take_of_length_le (by omega)
      have hn := num_lt 4 v.data.toList h4
      rw [p4] at hn
      refine Ev.ifp (by simp only [ba_toList]; exact hd) ?_
      simp only [if_neg h, ht, if_pos h4]
      refine Ev.ite (fun h1 => Ev.const (by rw [if_pos h1])) (fun h1 => Ev.const (by rw [if_neg h1]; congr 1; omega))
    · refine Ev.ifn (by simp only [ba_toList]; intro h0; have := congrArg List.length h0; rw [List.length_drop, List.length_nil] at this; omega) (Ev.const ?_)
      rw [if_neg h4]
def keptS (x : It) : KItm := ⟨(parsS x.f0.data.toList).1, (parsS x.f0.data.toList).2.1, ba (parsS x.f0.data.toList).2.2.1, (parsS x.f0.data.toList).2.2.2.1, x.f1⟩
def inoS (v : ByteArray) : INd := ⟨(decS v.data.toList).1, (decS v.data.toList).2.1, (decS v.data.toList).2.2.1, (decS v.data.toList).2.2.2.1, ba (decS v.data.toList).2.2.2.2.1⟩
def okP (x : It) : Bool := (parsS x.f0.data.toList).2.2.2.2 == 0 && (!((keptS x).f0 == 1) || (decS x.f1.data.toList).2.2.2.2.2 == 0)
def addS (s : VS) (x : It) : VS := if (keptS x).f0 = 1 then (s.add (keptS x)).put1 (keptS x).f1 (inoS x.f1)
  else if (keptS x).f0 = 2 then (s.add (keptS x)).put2 (numS x.f1) (wrap64 (((s.up (numS x.f1)).getD (0, 0)).1 + 1), (keptS x).f1) else s.add (keptS x)
def parseS : List It → VS → Option VS
  | [], s => some s
  | x :: r, s => if okP x = true then parseS r (addS s x) else none
def Fit (l : List It) : Prop := ∀ x ∈ l, x.f0.size ≤ maxLen ∧ x.f1.size ≤ maxLen
theorem okP_key {x : It} (h : okP x = true) : rightK (keptS x).f0 (keptS x).f1 (keptS x).f2.data.toList (keptS x).f3 = true ∧ keyL (keptS x).f0 (keptS x).f1 (keptS x).f2.data.toList (keptS x).f3 = x.f0.data.toList ∧ (0 ≤ (keptS x).f1 ∧ (keptS x).f1 < 4294967296) ∧ 0 ≤ (keptS x).f3 := by
  unfold okP at h
  rw [Bool.and_eq_true] at h
  have := key_pars (l := x.f0.data.toList) rfl (eq_of_beq h.1)
  unfold keptS
  rw [ba_data]
  exact this
theorem addS_len (s : VS) (x : It) : (addS s x).all = s.all ++ [keptS x] := by
  unfold addS
  split
  · rfl
  · split <;> rfl
theorem parseL_f : ∀ (l : List It) (s : VS), Fit l → s.all.length + l.length ≤ 4398046511103 → Ev (fun k => parseL k l s) (parseS l s)
  | [], s, _, _ => Ev.const rfl
  | x :: r, s, hf, hl => by
    have hx := hf x (List.mem_cons_self ..)
    have hm : maxLen ≤ 9223372036854775807 := by decide
    simp only [List.length_cons] at hl
    refine Ev.congr (fun k => by rw [parseL]) ?_
    refine Ev.bind (parse_f x.f0 (by omega)) ?_
    unfold baK
    show Ev (fun k => if (parsS x.f0.data.toList).2.2.2.2 = 0 then _ else _) _
    by_cases hp : (parsS x.f0.data.toList).2.2.2.2 = 0
    · refine Ev.ifp hp ?_
      have hr := key_pars (l := x.f0.data.toList) rfl hp
      refine Ev.ifp ⟨hr.2.2.1.1, hr.2.2.1.2, by omega⟩ ?_
      have hlen : (addS s x).all.length + r.length ≤ 4398046511103 := by rw [addS_len, List.length_append, List.length_singleton]; omega
      have ih := parseL_f r (addS s x) (fun y hy => hf y (List.mem_cons_of_mem _ hy)) hlen
      rw [parseS]
      by_cases h1 : (parsS x.f0.data.toList).1 = 1
      · refine Ev.ifp h1 ?_
        refine Ev.bind (decode_f x.f1 (by omega)) ?_
        unfold baI
        by_cases hd : (decS x.f1.data.toList).2.2.2.2.2 = 0
        · refine Ev.ifp hd ?_
          rw [if_pos (by unfold okP; rw [hp, hd]; simp)]
          rw [show addS s x = (s.add (keptS x)).put1 (keptS x).f1 (inoS x.f1) from if_pos h1] at ih ⊢
          exact ih
        · refine Ev.ifn hd (Ev.const ?_)
          rw [if_neg (by unfold okP keptS; simp [hd, h1])]
      · refine Ev.ifn h1 ?_
        rw [if_pos (by unfold okP keptS; simp [hp, h1])]
        by_cases h2 : (parsS x.f0.data.toList).1 = 2
        · refine Ev.ifp h2 ?_
          refine Ev.bind (numS_f x.f1) ?_
          rw [show addS s x = (s.add (keptS x)).put2 (numS x.f1) (wrap64 (((s.up (numS x.f1)).getD (0, 0)).1 + 1), (keptS x).f1) from (if_neg h1).trans (if_pos h2)] at ih ⊢
          exact ih
        · refine Ev.ifn h2 ?_
          rw [show addS s x = s.add (keptS x) from (if_neg h1).trans (if_neg h2)] at ih ⊢
          exact ih
    · refine Ev.ifn hp (Ev.const ?_)
      rw [parseS, if_neg (by unfold okP; simp [hp])]
structure Inv (p : List It) (s : VS) : Prop where
  all : s.all = p.map keptS
  ok : ∀ x ∈ p, okP x = true
  src : ∀ a n, s.ino a = some n → ∃ x ∈ p, (keptS x).f0 = 1 ∧ (keptS x).f1 = a ∧ n = inoS x.f1
  has : ∀ x ∈ p, (keptS x).f0 = 1 → (s.ino (keptS x).f1).isSome = true
theorem Inv.add {p : List It} {s : VS} (h : Inv p s) {x : It} (hx : okP x = true) : Inv (p ++ [x]) (addS s x) := by
  refine ⟨by rw [addS_len, h.all, List.map_append]; rfl, fun y hy => ?_, fun a n hn => ?_, fun y hy h1 => ?_⟩
  · rcases List.mem_append.1 hy with hy | hy
    · exact h.ok y hy
    · rw [List.mem_singleton.1 hy]; exact hx
  · by_cases h1 : (keptS x).f0 = 1
    · rw [show addS s x = (s.add (keptS x)).put1 (keptS x).f1 (inoS x.f1) from if_pos h1] at hn
      have hn : (if a = (keptS x).f1 then some (inoS x.f1) else s.ino a) = some n := hn
      by_cases ha : a = (keptS x).f1
      · rw [if_pos ha] at hn
        exact ⟨x, by simp, h1, ha.symm, (Option.some.inj hn).symm⟩
      · rw [if_neg ha] at hn
        obtain ⟨y, hy, e⟩ := h.src a n hn
        exact ⟨y, by simp [hy], e⟩
    · have : s.ino a = some n := by
        rw [← hn]
        unfold addS
        rw [if_neg h1]
        split <;> rfl
      obtain ⟨y, hy, e⟩ := h.src a n this
      exact ⟨y, by simp [hy], e⟩
  · by_cases hk : (keptS x).f0 = 1
    · rw [show addS s x = (s.add (keptS x)).put1 (keptS x).f1 (inoS x.f1) from if_pos hk]
      show (if (keptS y).f1 = (keptS x).f1 then some (inoS x.f1) else s.ino (keptS y).f1).isSome = true
      split
      · rfl
      · rename_i hne
        rcases List.mem_append.1 hy with hy | hy
        · exact h.has y hy h1
        · rw [List.mem_singleton.1 hy] at hne; exact absurd rfl hne
    · have e : ∀ a, (addS s x).ino a = s.ino a := fun a => by
        unfold addS
        rw [if_neg hk]
        split <;> rfl
      rw [e]
      rcases List.mem_append.1 hy with hy | hy
      · exact h.has y hy h1
      · rw [List.mem_singleton.1 hy] at h1; exact absurd h1 hk
theorem parseS_inv : ∀ (l p : List It) (s s' : VS), Inv p s → parseS l s = some s' → Inv (p ++ l) s'
  | [], p, s, s', h, e => by rw [List.append_nil]; rw [← Option.some.inj e]; exact h
  | x :: r, p, s, s', h, e => by
    rw [parseS] at e
    by_cases hx : okP x = true
    · rw [if_pos hx] at e
      have := parseS_inv r (p ++ [x]) (addS s x) s' (h.add hx) e
      rwa [List.append_assoc, List.singleton_append] at this
    · rw [if_neg hx] at e; exact absurd e (by simp)
theorem inv0 : Inv [] VS0 := ⟨rfl, fun x h => (by cases h), fun a n h => (by cases h), fun x h => (by cases h)⟩
def fitsS (s : VS) (x : KItm) : Bool :=
  if x.f0 = 2 then (s.ino x.f1).isSome && (s.ino (numS x.f4)).isSome && ((s.ino x.f1).getD zI).kd == 1
  else if x.f0 = 3 then (s.ino x.f1).isSome && ((s.ino x.f1).getD zI).kd == 2 && decide (0 ≤ (x.f4.size : Int) - 1) && decide ((x.f4.size : Int) - 1 < 128) && bt x.f4 ((x.f4.size : Int) - 1) != 0 && decide (x.f3 * 128 + ((x.f4.size : Int) - 1) < ((s.ino x.f1).getD zI).sz)
  else if x.f0 = 4 then (s.ino x.f1).isSome && decide ((x.f4.size : Int) ≤ 64) else (s.ino x.f1).isSome
theorem inoS_sz (v : ByteArray) : 0 ≤ (inoS v).sz ∧ (inoS v).sz < 4294967296 := by
  unfold inoS
  show 0 ≤ (decS v.data.toList).2.2.2.1 ∧ (decS v.data.toList).2.2.2.1 < 4294967296
  unfold decS
  split
  · rename_i h; exact (f_range _ h.1).2.2.2
  · exact ⟨by decide, by decide⟩
theorem Inv.sz {p : List It} {s : VS} (h : Inv p s) (a : Int) : 0 ≤ ((s.ino a).getD zI).sz ∧ ((s.ino a).getD zI).sz < 4294967296 := by
  cases hn : s.ino a with
  | none => exact ⟨by decide, by decide⟩
  | some n =>
    obtain ⟨x, _, _, _, e⟩ := h.src a n hn
    rw [e]
    exact inoS_sz x.f1
theorem fits_f {p : List It} {s : VS} (h : Inv p s) {x : It} (hx : okP x = true) (hv : x.f1.size ≤ 65536) : Ev (fun k => fitsF k s (keptS x)) (fitsS s (keptS x)) := by
  unfold fitsF fitsS
  refine Ev.ite (fun h2 => ?_) (fun h2 => ?_)
  · rw [if_pos h2]
    exact Ev.bind (numS_f _) (Ev.const rfl)
  · rw [if_neg h2]
    refine Ev.ite (fun h3 => ?_) (fun h3 => ?_)
    · rw [if_pos h3]
      have hk := okP_key hx
      have hs := h.sz (keptS x).f1
      have hr := hk.1
      rw [h3] at hr
      unfold rightK at hr
      have hr := (of_decide_eq_true hr).2
      exact Ev.ifp ⟨hk.2.2.2, by omega, hs.1, hs.2, hv⟩ (Ev.const rfl)
    · rw [if_neg h3]
      refine Ev.ite (fun h4 => Ev.const (by rw [if_pos h4])) (fun h4 => Ev.const (by rw [if_neg h4]))
theorem misfit_f {p : List It} {s : VS} (h : Inv p s) : ∀ l : List It, (∀ x ∈ l, okP x = true ∧ x.f1.size ≤ 65536) → Ev (fun k => misfitL k s (l.map keptS)) (!(l.map keptS).all (fitsS s))
  | [], _ => Ev.const rfl
  | x :: r, hx => by
    have h1 := hx x (List.mem_cons_self ..)
    refine Ev.congr (fun k => by rw [List.map_cons, misfitL]) ?_
    refine Ev.bind (fits_f h h1.1 h1.2) ?_
    rw [List.map_cons, List.all_cons]
    refine Ev.ite (fun hb => ?_) (fun hb => ?_)
    · rw [hb, Bool.true_and]
      exact misfit_f h r (fun y hy => hx y (List.mem_cons_of_mem _ hy))
    · rw [(Bool.not_eq_true _).mp hb]; exact Ev.const rfl
def lookS (l : List It) : Option VS := match parseS l VS0 with
  | none => none
  | some s => if okL l = true ∧ ((s.ino 1).getD zI).kd = 1 ∧ s.all.all (fitsS s) = true ∧ lookAll s s.all = true then some s else none
theorem look_f (l : List It) (hf : Fit l) (hl : l.length ≤ 4398046511103) : Ev (fun k => lookF k l) (lookS l) := by
  unfold lookF parseF lookS
  have hp := parseL_f l VS0 hf (by show 0 + l.length ≤ _; omega)
  cases hs : parseS l VS0 with
  | none =>
    rw [hs] at hp
    exact Ev.bind (Ev.bind hp (Ev.const rfl)) (Ev.const rfl)
  | some s =>
    rw [hs] at hp
    have hi := parseS_inv l [] VS0 s inv0 hs
    rw [List.nil_append] at hi
    have hpf : Ev (fun k => (parseL k l VS0).bind fun o => match o with | none => some none | some s => (item_Check.f k l).bind fun c => if c = 0 ∧ ((s.ino 1).getD zI).kd = 1 then some (some s) else some none) (if okL l = true ∧ ((s.ino 1).getD zI).kd = 1 then some s else none) := by
      refine Ev.bind hp ?_
      refine Ev.bind (itCheck l (by omega)) ?_
      by_cases hk : okL l = true
      · rw [hk]
        refine Ev.ite (fun h => Ev.const (by rw [if_pos ⟨rfl, h.2⟩])) (fun h => Ev.const ?_)
        rw [if_neg (fun h' => h ⟨rfl, h'.2⟩)]
      · rw [(Bool.not_eq_true _).mp hk]
        exact Ev.ifn (fun h => absurd h.1 (by decide)) (Ev.const (by rw [if_neg (fun h' => absurd h'.1 (by decide))]))
    refine Ev.bind hpf ?_
    by_cases hk : okL l = true ∧ ((s.ino 1).getD zI).kd = 1
    · rw [if_pos hk]
      have hm := misfit_f hi l (fun x hx => ⟨hi.ok x hx, by
        have := ((okL_iff l).1 hk.1).1 x hx
        unfold okI at this
        simp only [Bool.and_eq_true, decide_eq_true_eq] at this
        omega⟩)
      rw [← hi.all] at hm
      refine Ev.bind hm ?_
      by_cases ha : s.all.all (fitsS s) = true
      · rw [ha]
        refine Ev.ifn (by decide) (Ev.const ?_)
        by_cases hq : lookAll s s.all = true
        · rw [if_pos hq]; simp only []; rw [if_pos ⟨hk.1, hk.2, ha, hq⟩]
        · rw [if_neg hq]; simp only []; rw [if_neg (fun h => hq h.2.2.2)]
      · rw [(Bool.not_eq_true _).mp ha]
        refine Ev.ifp rfl (Ev.const ?_)
        simp only []
        rw [if_neg (fun h => ha h.2.2.1)]
    · rw [if_neg hk]
      simp only []
      rw [if_neg (fun h => hk ⟨h.1, h.2.1⟩)]
      exact Ev.const rfl
structure Rt (l : List It) (s : VS) : Prop where
  inv : Inv l s
  ok : okL l = true
  root : ((s.ino 1).getD zI).kd = 1
  fits : ∀ x ∈ l, fitsS s (keptS x) = true
theorem look_rt {l : List It} {s : VS} (h : lookS l = some s) : Rt l s := by
  unfold lookS at h
  cases hs : parseS l VS0 with
  | none => rw [hs] at h; exact absurd h (by simp)
  | some s' =>
    rw [hs] at h
    simp only [] at h
    by_cases hc : okL l = true ∧ ((s'.ino 1).getD zI).kd = 1 ∧ s'.all.all (fitsS s') = true ∧ lookAll s' s'.all = true
    · rw [if_pos hc] at h
      obtain rfl := Option.some.inj h
      have hi := parseS_inv l [] VS0 s' inv0 hs
      rw [List.nil_append] at hi
      refine ⟨hi, hc.1, hc.2.1, fun x hx => ?_⟩
      have := hc.2.2.1
      rw [hi.all, List.all_map, List.all_eq_true] at this
      exact this x hx
    · rw [if_neg hc] at h; exact absurd h (by simp)
def entryS (l : List It) (i : Int) (nm : ByteArray) : Int := if rightK 2 i nm.data.toList 0 = true then numS ((look l (keyL 2 i nm.data.toList 0)).getD ⟨#[]⟩) else 0
theorem look_mem {l : List It} (ha : Asc l) {x : It} (h : x ∈ l) : look l (key x) = some x.f1 := by
  obtain ⟨j, hj, rfl⟩ := List.mem_iff_getElem.1 h
  exact look_at ha j hj
theorem Rt.kept {l : List It} {s : VS} (h : Rt l s) {x : It} (hx : x ∈ l) (h2 : (keptS x).f0 = 2) : entryS l (keptS x).f1 (keptS x).f2 = numS x.f1 ∧ (s.ino (keptS x).f1).isSome = true ∧ (s.ino (numS x.f1)).isSome = true ∧ ((s.ino (keptS x).f1).getD zI).kd = 1 := by
  have hk := okP_key (h.inv.ok x hx)
  have hr := hk.1
  rw [h2] at hr
  have h3 : (keptS x).f3 = 0 := by
    unfold rightK at hr
    have := (of_decide_eq_true hr).2
    omega
  rw [h3] at hr
  have hkey : key x = keyL 2 (keptS x).f1 (keptS x).f2.data.toList 0 := by
    show x.f0.toList = _
    rw [ByteArray.toList_eq, ← hk.2.1, h2, h3]
  have hf := h.fits x hx
  unfold fitsS at hf
  rw [if_pos h2] at hf
  simp only [Bool.and_eq_true] at hf
  refine ⟨?_, hf.1.1, hf.1.2, eq_of_beq hf.2⟩
  unfold entryS
  rw [if_pos hr, ← hkey, look_mem ((okL_iff l).1 h.ok).2 hx]
  rfl
theorem Rt.pos {l : List It} {s : VS} (h : Rt l s) {a : Int} (hs : (s.ino a).isSome = true) : 0 < a ∧ a < 4294967296 := by
  obtain ⟨n, hn⟩ := Option.isSome_iff_exists.1 hs
  obtain ⟨x, hx, h1, rfl, _⟩ := h.inv.src a n hn
  have hk := okP_key (h.inv.ok x hx)
  have hr := hk.1
  unfold rightK at hr
  exact ⟨(of_decide_eq_true hr).1, hk.2.2.1.2⟩
abbrev VS.kd (s : VS) (a : Int) : Int := ((s.ino a).getD zI).kd
theorem Check_f {l : List It} (hf : Fit l) (hl : l.length ≤ 4398046511103) : Ev (fun k => dirs_Check.f k l) (match lookS l with | none => 9 | some _ => 0) := by
  unfold dirs_Check.f
  refine Ev.bind (look_f l hf hl) ?_
  cases lookS l <;> exact Ev.const rfl
end Go.Proofs.YtfkofbabeghgkaaGreat.Z
end

section
namespace Go.Proofs.YtfkofbabeghgkaaGreat.Z
open Go.Proofs.YtfkofbabeghgkaaGreat.PM
abbrev ES : Int := 16
def rtB (l : List It) : Bool := (lookS l).isSome
theorem rtB_ok (l : List It) (h : rtB l = true) : okL l = true := by
  unfold rtB at h
  obtain ⟨s, hs⟩ := Option.isSome_iff_exists.1 h
  exact (look_rt hs).ok
def mayF (k : Nat) (l : List It) : Option Bool := if l.length = 0 then some true else (dirs_Check.f k l).bind fun c => some (c == 0)
def recvF (k : Nat) (l : List It) (s : ByteArray) : Option (List It × Int) := (mayF k l).bind fun m => if m = true then (readF k s).bind fun o => match o with
    | none => some ([], ES)
    | some r => (markF k l).bind fun q => if q.1 = r.1 then (item_Apply.f k l r.2).bind fun a => (dirs_Check.f k a.1).bind fun c => if c = 0 then some (a.1, 0) else some ([], ES) else some ([], ES)
  else some ([], 9)
theorem mayF.mono (l : List It) : ∀ k, LeO (mayF k l) (mayF (k + 1) l) := fun k => LeO.ite (LeO.refl _) (LeO.bind (dirs_Check.mono _ _) (fun _ => LeO.refl _))
theorem recvF.mono (l : List It) (s : ByteArray) : ∀ k, LeO (recvF k l s) (recvF (k + 1) l s) := fun k => by
  unfold recvF
  refine LeO.bind (mayF.mono _ _) (fun m => LeO.ite (LeO.bind (readF.mono _ _) (fun o => ?_)) (LeO.refl _))
  cases o with
  | none => exact LeO.refl _
  | some r => exact LeO.bind (markF.mono _ _) (fun q => LeO.ite (LeO.bind (item_Apply.mono _ _ _) (fun a => LeO.bind (dirs_Check.mono _ _) (fun c => LeO.refl _))) (LeO.refl _))
theorem mayF_f {l : List It} (hf : Fit l) (hl : l.length ≤ 4398046511103) : Ev (fun k => mayF k l) (mayB rtB l) := by
  unfold mayF mayB rtB
  cases l with
  | nil => exact Ev.ifp rfl (Ev.const rfl)
  | cons x r =>
    refine Ev.ifn (by rw [List.length_cons]; omega) ?_
    refine Ev.bind (Check_f hf hl) (Ev.const ?_)
    cases lookS (x :: r) <;> rfl
noncomputable def mkY (l : List It) : Bs := octs (mkB l)
theorem mkY_len (l : List It) : (mkY l).length = 32 := by
  unfold mkY octs mkB
  rw [List.length_map, hS_len]
theorem mkY_ints (l : List It) : ints (mkY l) = mkB l := ints_bytes (hS_range _)
noncomputable def recvR (l : List It) (s : Bs) : List It × Int := if mayB rtB l = true then (match recvB mkY rtB l s with | some m => (m, 0) | none => ([], ES)) else ([], 9)
theorem fit_ok {l : List It} (h : okL l = true) : Fit l := fun x hx => by
  have h1 := ((okL_iff _).1 h).1 x hx
  unfold okI okK at h1
  simp only [Bool.and_eq_true, decide_eq_true_eq] at h1
  have hm : 160 ≤ maxLen := by decide
  exact ⟨by omega, by omega⟩
theorem readB_len {s : Bs} {r : Bs × List Ch} (h : readB s = some r) : r.2.length ≤ s.length ∧ okC r.2 = true := by
  unfold readB at h
  by_cases hc : s.take 2 = [67, 83] ∧ 42 ≤ s.length ∧ crc (s.take (s.length - 4)) 0 = num (s.drop (s.length - 4))
  · rw [if_pos hc] at h
    dsimp only at h
    generalize htt : tN 4 ((((s.drop 2).take ((s.drop 2).length - 4)).drop 32), false) = nt at h
    have h2 := tN_len 4 ((((s.drop 2).take ((s.drop 2).length - 4)).drop 32), false)
    rw [htt] at h2
    have hll := tL_list nt.1 nt.2 []
    rw [List.length_nil] at hll
    have hlen : (((s.drop 2).take ((s.drop 2).length - 4)).drop 32).length ≤ s.length - 34 := by
      simp only [List.length_drop, List.length_take]; omega
    have h3 : nt.2.1.length ≤ (((s.drop 2).take ((s.drop 2).length - 4)).drop 32).length - 4 := h2
    generalize tL nt.1 nt.2 [] = q at h hll
    by_cases hq : q.1.2 = false ∧ q.1.1 = [] ∧ okC q.2 = true
    · rw [if_pos hq] at h
      rw [← Option.some.inj h]
      exact ⟨by show q.2.length ≤ _; omega, hq.2.2⟩
    · rw [if_neg hq] at h; cases h
  · rw [if_neg hc] at h; cases h
theorem recvF_f {l : List It} (hf : Fit l) (hl : l.length ≤ 1073741824) (s : ByteArray) (hs : s.size ≤ 1073741824) : Ev (fun k => recvF k l s) (recvR l s.data.toList) := by
  have hz : s.size = s.data.toList.length := by rw [Array.length_toList]; rfl
  unfold recvF recvR
  refine Ev.bind (mayF_f hf (by omega)) ?_
  by_cases hm : mayB rtB l = true
  · rw [if_pos hm]
    refine Ev.ifp hm ?_
    refine Ev.bind (readF_f s hs) ?_
    have hok := may_ok (rt := rtB) rtB_ok hm
    unfold recvB
    rw [if_pos hm]
    cases hr : readB s.data.toList with
    | none => exact Ev.const rfl
    | some r =>
      obtain ⟨hrl, hrc⟩ := readB_len hr
      show Ev (fun k => (markF k l).bind fun q => if q.1 = ints r.1 then _ else _) _
      refine Ev.bind (markF_f hl) ?_
      rw [if_pos hok]
      have hiff : mkB l = ints r.1 ↔ r.1 = mkY l := by
        rw [← mkY_ints l]
        exact ⟨fun h => (ints_inj h).symm, fun h => by rw [h]⟩
      by_cases hq : r.1 = mkY l
      · refine Ev.ifp (hiff.2 hq) ?_
        refine Ev.bind (itApply l r.2 (by omega)) ?_
        have ha : aplS l r.2 = (apl l r.2, 0) := by
          unfold aplS
          rw [hok, hrc]; rfl
        rw [ha]
        have hoa := apl_ok hok hrc
        have hal := apl_len r.2 l
        refine Ev.bind (Check_f (fit_ok hoa) (by show (apl l r.2).length ≤ _; omega)) ?_
        unfold rtB
        cases hlk : lookS (apl l r.2) with
        | none =>
          refine Ev.ifn (show ¬ (9 : Int) = 0 by decide) (Ev.const ?_)
          simp only [hlk]
          rw [if_neg (fun h => absurd h.2 (by decide))]
        | some v =>
          refine Ev.ifp rfl (Ev.const ?_)
          simp only [hlk]
          rw [if_pos ⟨hq, rfl⟩]
      · refine Ev.ifn (fun h => hq (hiff.1 h)) (Ev.const ?_)
        dsimp only
        rw [if_neg (fun h => hq h.1)]
  · rw [if_neg hm]
    exact Ev.ifn hm (Ev.const rfl)
end Go.Proofs.YtfkofbabeghgkaaGreat.Z
end
