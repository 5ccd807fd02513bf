/- DirsAsksUpto: at every input the law's function returns true and leaves its arguments as they were; condition: the arguments are of bulk at most 1048576. Part 6 of 6: this session's own texts, laid together. -/
import Derived.Test.YtpnmajblhgnkoaaGreatMB1
import Derived.Test.YtpnmajblhgnkoaaGreatMB5
import Derived.Test.YtpnmajblhgnkoaaGreatMB3
import Derived.Test.YtpnmajblhgnkoaaGreatRows
import Derived.WalkKit
import Derived.ProofKit
import Derived.OpenShut
import Derived.ShutString
import Derived.ChangeOld
import Derived.Below
import Derived.SizedLaws
import Derived.Carry
import Derived.JoinedCond
import Derived.Deep.CondSized
open Go.RowKit Go.Proofs.YtpnmajblhgnkoaaGreatW.PrintWords Go.Proofs.YtpnmajblhgnkoaaGreatW.PrintLast Go.Proofs.YtpnmajblhgnkoaaGreatW.PrintMore
set_option linter.unusedVariables false
set_option linter.unusedSimpArgs false
section
namespace Go.Proofs.YtpnmajblhgnkoaaGreat.Z
attribute [local go_sem] max2_int min2_int max_two min_two max_three min_three max_four min_four   -- for this text's walks alone
theorem eqA31 (d : Nat) (w : World) (x0 y0 : Int) (x1 y1 : Int) (x2 y2 : Int) (x3 y3 : Int) (x4 y4 : ByteArray) :
    (Op.equalIn (d + 2) 31 (.agg #[.int .u8 x0, .int .u16 x1, .int .u32 x2, .int .u32 x3, .string x4]) (.agg #[.int .u8 y0, .int .u16 y1, .int .u32 y2, .int .u32 y3, .string y4])).run Tryz.prog w = .ok (x0 == y0 && (x1 == y1 && (x2 == y2 && (x3 == y3 && (x4.toList == y4.toList))))) w := by
  refine eqA_of Tryz.underlying31 (by kernel_rfl) ?_
  refine eqf_cons (by rfl) (by go_simp; rfl) (by go_simp; rfl) (by go_simp) ?_
  refine eqf_cons (by rfl) (by go_simp; rfl) (by go_simp; rfl) (by go_simp) ?_
  refine eqf_cons (by rfl) (by go_simp; rfl) (by go_simp; rfl) (by go_simp) ?_
  refine eqf_cons (by rfl) (by go_simp; rfl) (by go_simp; rfl) (by go_simp) ?_
  exact eqf_last (by rfl) (by go_simp; rfl) (by go_simp; rfl) (by go_simp)
theorem eqA43 (d : Nat) (w : World) (x0 y0 : ByteArray) (x1 y1 : Int) (x2 y2 : Int) :
    (Op.equalIn (d + 2) 43 (.agg #[.string x0, .int .u32 x1, .int .u8 x2]) (.agg #[.string y0, .int .u32 y1, .int .u8 y2])).run Tryz.prog w = .ok (x0.toList == y0.toList && (x1 == y1 && (x2 == y2))) w := by
  refine eqA_of Tryz.underlying43 (by kernel_rfl) ?_
  refine eqf_cons (by rfl) (by go_simp; rfl) (by go_simp; rfl) (by go_simp) ?_
  refine eqf_cons (by rfl) (by go_simp; rfl) (by go_simp; rfl) (by go_simp) ?_
  exact eqf_last (by rfl) (by go_simp; rfl) (by go_simp; rfl) (by go_simp)
end Go.Proofs.YtpnmajblhgnkoaaGreat.Z
end

section
namespace Go.Proofs.YtpnmajblhgnkoaaGreat.Z
attribute [local go_sem] max2_int min2_int max_two min_two max_three min_three max_four min_four   -- for this text's walks alone
attribute [local go_sem high] eqA31 eqA43
mutual
def cambiumlaw14_DirsAsks.j0 : Nat → List (S43) → List (S43) → Bool → Option (Bool)
 | 0, _, _, _ => none
 | k + 1, x17, x19, x130 => if x130 = true then (some false) else (cambiumlaw14_DirsAsks.l0 k x17 x19 (x17.length : Int) 0)
def cambiumlaw14_DirsAsks.l0 : Nat → List (S43) → List (S43) → Int → Int → Option (Bool)
 | 0, _, _, _, _ => none
 | k + 1, x17, x19, x132, x133 => if x133 < x132 then (if 0 ≤ x133 then (if x133 < (x17.length : Int) then (if x133 < (x19.length : Int) then (if (!((((rd_T43 x17 x133).f0).toList) == (((rd_T43 x19 x133).f0).toList)) || (!(((rd_T43 x17 x133).f1) == ((rd_T43 x19 x133).f1)) || (!(((rd_T43 x17 x133).f2) == ((rd_T43 x19 x133).f2))))) = true then (some false) else (cambiumlaw14_DirsAsks.l0 k x17 x19 x132 (wrap64 (x133 + 1)))) else (none)) else (none)) else (none)) else (some true)
end
def cambiumlaw14_DirsAsks.f (k : Nat) (l0 : List (S56)) (l1 : List ByteArray) (a2 : Bool) (a3 : Int) : Option (Bool) := (dirs_Walk.f k l0 l1 a2).bind fun bt486 => ((cambiumref14_Walk.f k l0 l1 a2).bind fun bt488 => ((dirs_Get.f k l0 a3).bind fun bt490 => ((cambiumref14_Get.f k l0 a3).bind fun bt497 => ((dirs_List.f k l0 a3).bind fun bt504 => ((cambiumref14_List.f k l0 a3).bind fun bt508 => ((dirs_Next.f k l0).bind fun bt512 => ((cambiumref14_Next.f k l0).bind fun bt514 => ((cambiumlaw14_lives.f k).bind fun t516 => (if t516 = true then (if bt486.1 = bt488.1 then (if bt486.2 = bt488.2 then (if (!(bt490.1 == bt497.1) || (!(bt490.2.1 == bt497.2.1) || (!(bt490.2.2.1 == bt497.2.2.1) || (!(bt490.2.2.2.1 == bt497.2.2.2.1) || (!(bt490.2.2.2.2.1.toList == bt497.2.2.2.2.1.toList)))))) = true then (cambiumlaw14_DirsAsks.j0 k bt504.1 bt508.1 true) else (if bt490.2.2.2.2.2 = bt497.2.2.2.2.2 then (if bt504.2 = bt508.2 then (if (bt504.1.length : Int) = (bt508.1.length : Int) then (if bt512.1 = bt514.1 then (if bt512.2 = bt514.2 then ((dirs_Check.f k l0).bind fun t517 => ((cambiumref14_Check.f k l0).bind fun t518 => (if t517 = t518 then ((dirs_New.f k).bind fun t519 => ((cambiumref14_New.f k).bind fun t522 => ((cambiumref04_Same.f k t519 t522).bind fun t525 => (cambiumlaw14_DirsAsks.j0 k bt504.1 bt508.1 (!t525))))) else (cambiumlaw14_DirsAsks.j0 k bt504.1 bt508.1 true)))) else (cambiumlaw14_DirsAsks.j0 k bt504.1 bt508.1 true)) else (cambiumlaw14_DirsAsks.j0 k bt504.1 bt508.1 true)) else (cambiumlaw14_DirsAsks.j0 k bt504.1 bt508.1 true)) else (cambiumlaw14_DirsAsks.j0 k bt504.1 bt508.1 true)) else (cambiumlaw14_DirsAsks.j0 k bt504.1 bt508.1 true))) else (cambiumlaw14_DirsAsks.j0 k bt504.1 bt508.1 true)) else (cambiumlaw14_DirsAsks.j0 k bt504.1 bt508.1 true)) else (cambiumlaw14_DirsAsks.j0 k bt504.1 bt508.1 true))))))))))
theorem cambiumlaw14_DirsAsks.mono_l : ∀ k, (∀ y0 y1 y2, LeO (cambiumlaw14_DirsAsks.j0 k y0 y1 y2) (cambiumlaw14_DirsAsks.j0 (k + 1) y0 y1 y2)) ∧ (∀ y0 y1 y2 y3, LeO (cambiumlaw14_DirsAsks.l0 k y0 y1 y2 y3) (cambiumlaw14_DirsAsks.l0 (k + 1) y0 y1 y2 y3))
 | 0 => by
  refine ⟨?_, ?_⟩ <;> (intros; intro r h; simp [cambiumlaw14_DirsAsks.j0, cambiumlaw14_DirsAsks.l0] at h)
 | k + 1 => by
  obtain ⟨ih0, ih1⟩ := cambiumlaw14_DirsAsks.mono_l k
  refine ⟨?_, ?_⟩ <;> (intros; (first | unfold cambiumlaw14_DirsAsks.j0 | unfold cambiumlaw14_DirsAsks.l0); repeat' (first | (with_reducible first | exact ih0 _ _ _ | exact ih1 _ _ _ _ | exact cambiumlaw14_lives.mono _ | exact cambiumref04_Same.mono _ _ _ | exact cambiumref14_Check.mono _ _ | exact cambiumref14_Get.mono _ _ _ | exact cambiumref14_List.mono _ _ _ | exact cambiumref14_New.mono _ | exact cambiumref14_Next.mono _ _ | exact cambiumref14_Walk.mono _ _ _ _ | exact dirs_Check.mono _ _ | exact dirs_Get.mono _ _ _ | exact dirs_List.mono _ _ _ | exact dirs_New.mono _ | exact dirs_Next.mono _ _ | exact dirs_Walk.mono _ _ _ _ | exact LeO.refl _ | exact LeO.none _ | refine LeO.ite ?_ ?_ | refine LeO.bind ?_ (fun _ => ?_))))
theorem cambiumlaw14_DirsAsks.mono : ∀ a0 a1 a2 a3 k, LeO (cambiumlaw14_DirsAsks.f k a0 a1 a2 a3) (cambiumlaw14_DirsAsks.f (k + 1) a0 a1 a2 a3) := by
 intro a0 a1 a2 a3 k
 obtain ⟨ih0, ih1⟩ := cambiumlaw14_DirsAsks.mono_l k
 unfold cambiumlaw14_DirsAsks.f
 repeat' (first | (with_reducible first | exact ih0 _ _ _ | exact ih1 _ _ _ _ | exact cambiumlaw14_lives.mono _ | exact cambiumref04_Same.mono _ _ _ | exact cambiumref14_Check.mono _ _ | exact cambiumref14_Get.mono _ _ _ | exact cambiumref14_List.mono _ _ _ | exact cambiumref14_New.mono _ | exact cambiumref14_Next.mono _ _ | exact cambiumref14_Walk.mono _ _ _ _ | exact dirs_Check.mono _ _ | exact dirs_Get.mono _ _ _ | exact dirs_List.mono _ _ _ | exact dirs_New.mono _ | exact dirs_Next.mono _ _ | exact dirs_Walk.mono _ _ _ _ | exact LeO.refl _ | exact LeO.none _ | refine LeO.ite ?_ ?_ | refine LeO.bind ?_ (fun _ => ?_)))
set_option maxHeartbeats 8000000 in
set_option maxRecDepth 100000 in
theorem cambiumlaw14_DirsAsks.calls (k : Nat) (A0 : Option Addr) (c0 : Nat) (l0 : List (S56)) (A1 : Option Addr) (c1 : Nat) (l1 : List ByteArray) (a2 : Bool) (a3 : Int) (r : Bool) (w : World) (hr0 : Kd.C k56 w A0 l0.length l0) (hc0 : l0.length ≤ c0) (hr1 : Kd.C Kd.string w A1 l1.length l1) (hc1 : l1.length ≤ c1) (h : cambiumlaw14_DirsAsks.f k l0 l1 a2 a3 = some r) (hT_ : r = true := by rfl) :
  Calls Tryz.prog 3 #[.slice A0 l0.length c0, .slice A1 l1.length c1, .bool a2, .int .u32 a3] w fun e w' => e = .returned (.bool r) ∧ Below w.heap.size w w' := by
 have HT_ := ak_ hT_
 clear hT_
 have hu31 := Tryz.underlying31
 have hu43 := Tryz.underlying43
 have HR0 := ak_ hr0
 have HC0 := ak_ hc0
 clear hr0 hc0
 have HR1 := ak_ hr1
 have HC1 := ak_ hc1
 clear hr1 hc1
 have HB := ak_ (Below.refl w.heap.size w)
 have H : ((dirs_Walk.f k l0 l1 a2).bind fun bt486 => ((cambiumref14_Walk.f k l0 l1 a2).bind fun bt488 => ((dirs_Get.f k l0 a3).bind fun bt490 => ((cambiumref14_Get.f k l0 a3).bind fun bt497 => ((dirs_List.f k l0 a3).bind fun bt504 => ((cambiumref14_List.f k l0 a3).bind fun bt508 => ((dirs_Next.f k l0).bind fun bt512 => ((cambiumref14_Next.f k l0).bind fun bt514 => ((cambiumlaw14_lives.f k).bind fun t516 => (if t516 = true then (if bt486.1 = bt488.1 then (if bt486.2 = bt488.2 then (if (!(bt490.1 == bt497.1) || (!(bt490.2.1 == bt497.2.1) || (!(bt490.2.2.1 == bt497.2.2.1) || (!(bt490.2.2.2.1 == bt497.2.2.2.1) || (!(bt490.2.2.2.2.1.toList == bt497.2.2.2.2.1.toList)))))) = true then (cambiumlaw14_DirsAsks.j0 k bt504.1 bt508.1 true) else (if bt490.2.2.2.2.2 = bt497.2.2.2.2.2 then (if bt504.2 = bt508.2 then (if (bt504.1.length : Int) = (bt508.1.length : Int) then (if bt512.1 = bt514.1 then (if bt512.2 = bt514.2 then ((dirs_Check.f k l0).bind fun t517 => ((cambiumref14_Check.f k l0).bind fun t518 => (if t517 = t518 then ((dirs_New.f k).bind fun t519 => ((cambiumref14_New.f k).bind fun t522 => ((cambiumref04_Same.f k t519 t522).bind fun t525 => (cambiumlaw14_DirsAsks.j0 k bt504.1 bt508.1 (!t525))))) else (cambiumlaw14_DirsAsks.j0 k bt504.1 bt508.1 true)))) else (cambiumlaw14_DirsAsks.j0 k bt504.1 bt508.1 true)) else (cambiumlaw14_DirsAsks.j0 k bt504.1 bt508.1 true)) else (cambiumlaw14_DirsAsks.j0 k bt504.1 bt508.1 true)) else (cambiumlaw14_DirsAsks.j0 k bt504.1 bt508.1 true)) else (cambiumlaw14_DirsAsks.j0 k bt504.1 bt508.1 true))) else (cambiumlaw14_DirsAsks.j0 k bt504.1 bt508.1 true)) else (cambiumlaw14_DirsAsks.j0 k bt504.1 bt508.1 true)) else (cambiumlaw14_DirsAsks.j0 k bt504.1 bt508.1 true))))))))))) = some r := h
 clear h
 replace H := Option.bind_eq_some_iff.mp H
 obtain ⟨⟨t486, t487⟩, A50, H⟩ := H
 try dsimp only at H
 have A5 := ak_ A50
 clear A50
 replace H := Option.bind_eq_some_iff.mp H
 obtain ⟨⟨t488, t489⟩, A60, H⟩ := H
 try dsimp only at H
 have A6 := ak_ A60
 clear A60
 replace H := Option.bind_eq_some_iff.mp H
 obtain ⟨⟨t490, t491, t492, t493, t494, t495⟩, A70, H⟩ := H
 try dsimp only at H
 have A7 := ak_ A70
 clear A70
 replace H := Option.bind_eq_some_iff.mp H
 obtain ⟨⟨t497, t498, t499, t500, t501, t502⟩, A80, H⟩ := H
 try dsimp only at H
 have A8 := ak_ A80
 clear A80
 replace H := Option.bind_eq_some_iff.mp H
 obtain ⟨⟨t504, t505⟩, A90, H⟩ := H
 try dsimp only at H
 have A9 := ak_ A90
 clear A90
 replace H := Option.bind_eq_some_iff.mp H
 obtain ⟨⟨t508, t509⟩, A100, H⟩ := H
 try dsimp only at H
 have A10 := ak_ A100
 clear A100
 replace H := Option.bind_eq_some_iff.mp H
 obtain ⟨⟨t512, t513⟩, A110, H⟩ := H
 try dsimp only at H
 have A11 := ak_ A110
 clear A110
 replace H := Option.bind_eq_some_iff.mp H
 obtain ⟨⟨t514, t515⟩, A120, H⟩ := H
 try dsimp only at H
 have A12 := ak_ A120
 clear A120
 have HC13 := ak_ H
 clear H
 go_enter Tryz.func3, Tryz.ntmps3
 go_upto_region 9 with (first | (go_at_call 4; (with_reducible refine (dirs_Walk.calls k _ _ l0 _ _ l1 a2 t486 t487 _ ?side1 ?side2 ?side3 ?side4 A5.out).mono ?_); (case side1 => repeat (first | exact HR0.out | (with_reducible refine Kd.C_alloc ?_ _) | (with_reducible refine Kd.C_drewN ?_ _) | (with_reducible refine Kd.C_drew ?_))); (case side2 => exact HC0.out); (case side3 => repeat (first | exact HR1.out | (with_reducible refine Kd.C_alloc ?_ _) | (with_reducible refine Kd.C_drewN ?_ _) | (with_reducible refine Kd.C_drew ?_))); (case side4 => exact HC1.out); rintro e w14 ⟨rfl, hb⟩; have n0_ := ak_ (below_step bel_ hb); clear HB; have HB := n0_; clear n0_; (try clear hb)) | (go_at_call 5; (with_reducible refine (cambiumref14_Walk.calls k _ _ l0 _ _ l1 a2 t488 t489 _ ?side1 ?side2 ?side3 ?side4 A6.out).mono ?_); (case side1 => exact cb_ HR0); (case side2 => exact HC0.out); (case side3 => exact cb_ HR1); (case side4 => exact HC1.out); rintro e w15 ⟨rfl, hb⟩; have n0_ := ak_ (below_step bel_ hb); clear HB; have HB := n0_; clear n0_; (try clear hb)) | (go_at_call 6; (with_reducible refine (dirs_Get.calls k _ _ l0 a3 t490 t491 t492 t493 t494 t495 _ ?side1 ?side2 A7.out).mono ?_); (case side1 => exact cb_ HR0); (case side2 => exact HC0.out); rintro e w16 ⟨rfl, hb⟩; have n0_ := ak_ (below_step bel_ hb); clear HB; have HB := n0_; clear n0_; (try clear hb)) | ((with_reducible refine gate_dst (N := 13) rfl ?_); (try (refine gate_guard (by rfl) ?_; dsimp only)); refine bx_ (N := 13) (cs := #[.int .u8 0, .int .u16 0, .int .u32 0, .int .u32 0, .string (⟨#[]⟩ : ByteArray)]) (t := 31) ?_; intro gb496 hg w17 hbox hb; have n0_ := ak_ (below_step bel_ hb); have n1_ := ak_ (hbox); have n2_ := ak_ ((by rw [hg]; exact (below_size bel_) : w.heap.size ≤ gb496)); have n3_ := ak_ ((by rw [hg]; exact (below_size bel_) : w.heap.size ≤ gb496)); clear HB; have HB := n0_; have BK496 := n1_; have GW496 := n2_; have GE496 := n3_; clear n0_ n1_ n2_ n3_; clear hb hbox hg; have hcz18_0 : w17.cell? ⟨gb496, 0, none⟩ = some (.int .u8 0) := (blk_cell BK496.out 0).trans rfl; have hcz18_1 : w17.cell? ⟨gb496, 1, none⟩ = some (.int .u16 0) := (blk_cell BK496.out 1).trans rfl; have hcz18_2 : w17.cell? ⟨gb496, 2, none⟩ = some (.int .u32 0) := (blk_cell BK496.out 2).trans rfl; have hcz18_3 : w17.cell? ⟨gb496, 3, none⟩ = some (.int .u32 0) := (blk_cell BK496.out 3).trans rfl; have hcz18_4 : w17.cell? ⟨gb496, 4, none⟩ = some (.string (⟨#[]⟩ : ByteArray)) := (blk_cell BK496.out 4).trans rfl; have hfz18_0 := blk_frozen BK496.out 0; have hfz18_1 := blk_frozen BK496.out 1; have hfz18_2 := blk_frozen BK496.out 2; have hfz18_3 := blk_frozen BK496.out 3; have hfz18_4 := blk_frozen BK496.out 4) | (go_at_call 7; (with_reducible refine (cambiumref14_Get.calls k _ _ l0 a3 t497 t498 t499 t500 t501 t502 _ ?side1 ?side2 A8.out).mono ?_); (case side1 => exact Kd.C_below HR0.out bel_); (case side2 => exact HC0.out); rintro e w19 ⟨rfl, hb⟩; have n0_ := ak_ (blk_below (g := gb496) (o := .cells #[.int .u8 t490, .int .u16 t491, .int .u32 t492, .int .u32 t493, .string t494] 31 (0, 0)) (bs_) hb); have n1_ := ak_ (below_step bel_ hb); clear BK496; clear HB; have BK496 := n0_; have HB := n1_; clear n0_ n1_; (try clear hb)) | ((with_reducible refine gate_dst (N := 15) rfl ?_); (try (refine gate_guard (by rfl) ?_; dsimp only)); refine bx_ (N := 15) (cs := #[.int .u8 0, .int .u16 0, .int .u32 0, .int .u32 0, .string (⟨#[]⟩ : ByteArray)]) (t := 31) ?_; intro gb503 hg w20 hbox hb; have n0_ := ak_ (blk_below (bk_ BK496) hb); have n1_ := ak_ (below_step bel_ hb); have n2_ := ak_ (hbox); have n3_ := ak_ ((by rw [hg]; exact (below_size bel_) : w.heap.size ≤ gb503)); have n4_ := ak_ ((by rw [hg]; exact (below_size bel_) : w.heap.size ≤ gb503)); have n5_ := ak_ ((by rw [hg]; exact Nat.ne_of_lt (blk_lt (bk_ BK496)) : gb496 ≠ gb503)); have n6_ := ak_ ((by rw [hg]; exact Nat.ne_of_gt (blk_lt (bk_ BK496)) : gb503 ≠ gb496)); clear BK496; clear HB; have BK496 := n0_; have HB := n1_; have BK503 := n2_; have GW503 := n3_; have GE503 := n4_; have NB496_503 := n5_; have NB503_496 := n6_; clear n0_ n1_ n2_ n3_ n4_ n5_ n6_; clear hb hbox hg; have hnb21 := NB503_496.out; have hnc21 := NB496_503.out; have hcz22_0 : w20.cell? ⟨gb503, 0, none⟩ = some (.int .u8 0) := (blk_cell BK503.out 0).trans rfl; have hcz22_1 : w20.cell? ⟨gb503, 1, none⟩ = some (.int .u16 0) := (blk_cell BK503.out 1).trans rfl; have hcz22_2 : w20.cell? ⟨gb503, 2, none⟩ = some (.int .u32 0) := (blk_cell BK503.out 2).trans rfl; have hcz22_3 : w20.cell? ⟨gb503, 3, none⟩ = some (.int .u32 0) := (blk_cell BK503.out 3).trans rfl; have hcz22_4 : w20.cell? ⟨gb503, 4, none⟩ = some (.string (⟨#[]⟩ : ByteArray)) := (blk_cell BK503.out 4).trans rfl; have hfz22_0 := blk_frozen BK503.out 0; have hfz22_1 := blk_frozen BK503.out 1; have hfz22_2 := blk_frozen BK503.out 2; have hfz22_3 := blk_frozen BK503.out 3; have hfz22_4 := blk_frozen BK503.out 4) | (go_at_call 8; (with_reducible refine (dirs_List.calls k _ _ l0 a3 t504 t505 _ ?side1 ?side2 A9.out).mono ?_); (case side1 => exact Kd.C_below HR0.out bel_); (case side2 => exact HC0.out); rintro e w23 ⟨v506, rfl, ho0, hb⟩; have n0_ := ak_ (Kd.R_lower ho0 (below_size bel_)); have n1_ := ak_ (blk_below (g := gb496) (o := .cells #[.int .u8 t490, .int .u16 t491, .int .u32 t492, .int .u32 t493, .string t494] 31 (0, 0)) (bs_) hb); have n2_ := ak_ (blk_below (g := gb503) (o := .cells #[.int .u8 t497, .int .u16 t498, .int .u32 t499, .int .u32 t500, .string t501] 31 (0, 0)) (bs_) hb); have n3_ := ak_ (below_step bel_ hb); clear BK496; clear BK503; clear HB; have HO507 := n0_; have BK496 := n1_; have BK503 := n2_; have HB := n3_; clear n0_ n1_ n2_ n3_; (try clear hb); (try clear ho0)) | (go_at_call 9; (with_reducible refine (cambiumref14_List.calls k _ _ l0 a3 t508 t509 _ ?side1 ?side2 A10.out).mono ?_); (case side1 => exact cb_ HR0); (case side2 => exact HC0.out); rintro e w24 ⟨v510, rfl, ho0, hb⟩; have n0_ := ak_ (Kd.R_elder' (ra_ HO507) (Kd.R_base ho0) hb); have n1_ := ak_ (Kd.R_lower (Kd.R_new' ho0 (Kd.R_lt (ra_ HO507))) (below_size bel_)); have n2_ := ak_ (blk_below (bk_ BK496) hb); have n3_ := ak_ (blk_below (bk_ BK503) hb); have n4_ := ak_ (below_step bel_ hb); clear HO507; clear BK496; clear BK503; clear HB; have HO507 := n0_; have HO511 := n1_; have BK496 := n2_; have BK503 := n3_; have HB := n4_; clear n0_ n1_ n2_ n3_ n4_; (try clear hb); (try clear ho0)) | (go_at_call 10; (with_reducible refine (dirs_Next.calls k _ _ l0 t512 t513 _ ?side1 ?side2 A11.out).mono ?_); (case side1 => exact cb_ HR0); (case side2 => exact HC0.out); rintro e w25 ⟨rfl, hb⟩; have n0_ := ak_ (Kd.R_below (ra_ HO507) hb); have n1_ := ak_ (Kd.R_below (ra_ HO511) hb); have n2_ := ak_ (blk_below (bk_ BK496) hb); have n3_ := ak_ (blk_below (bk_ BK503) hb); have n4_ := ak_ (below_step bel_ hb); clear HO507; clear HO511; clear BK496; clear BK503; clear HB; have HO507 := n0_; have HO511 := n1_; have BK496 := n2_; have BK503 := n3_; have HB := n4_; clear n0_ n1_ n2_ n3_ n4_; (try clear hb)) | (go_at_call 11; (with_reducible refine (cambiumref14_Next.calls k _ _ l0 t514 t515 _ ?side1 ?side2 A12.out).mono ?_); (case side1 => exact cb_ HR0); (case side2 => exact HC0.out); rintro e w26 ⟨rfl, hb⟩; have n0_ := ak_ (Kd.R_below (ra_ HO507) hb); have n1_ := ak_ (Kd.R_below (ra_ HO511) hb); have n2_ := ak_ (blk_below (bk_ BK496) hb); have n3_ := ak_ (blk_below (bk_ BK503) hb); have n4_ := ak_ (below_step bel_ hb); clear HO507; clear HO511; clear BK496; clear BK503; clear HB; have HO507 := n0_; have HO511 := n1_; have BK496 := n2_; have BK503 := n3_; have HB := n4_; clear n0_ n1_ n2_ n3_ n4_; (try clear hb)))
 (try simp only [Act.put, List.setIfInBounds_toArray, List.set_cons_zero, List.set_cons_succ])
 go_cut [130] (fun v130 wc => ∃ (kq : Nat) (x130_12 : Bool), v130 = .bool x130_12 ∧ Aside0 (cambiumlaw14_DirsAsks.j0 kq t504 t508 x130_12 = some r) ∧ Aside0 (kq ≤ k) ∧ Aside0 (Kd.R k43 43 wc w.heap.size (fun k_ => some k_ ≠ (v510 : Value).ownBlock) v506 t504) ∧ Aside0 (Kd.R k43 43 wc w.heap.size (fun k_ => some k_ ≠ (v506 : Value).ownBlock) v510 t508) ∧ Aside0 (wc.heap[gb496]? = some (.cells #[.int .u8 t490, .int .u16 t491, .int .u32 t492, .int .u32 t493, .string t494] 31 (0, 0))) ∧ Aside0 (wc.heap[gb503]? = some (.cells #[.int .u8 t497, .int .u16 t498, .int .u32 t499, .int .u32 t500, .string t501] 31 (0, 0))) ∧ Aside0 (Below w.heap.size w wc))
 case first =>
  have H := HC13.out
  clear HC13
  replace H := Option.bind_eq_some_iff.mp H
  obtain ⟨t516, A270, H⟩ := H
  try dsimp only at H
  have A27 := ak_ A270
  clear A270
  by_cases c28 : t516 = true
  ·subst c28
   rw [if_pos rfl] at H
   by_cases c29 : t486 = t488
   ·rw [if_pos c29] at H
    have c29b0 : (t486 == t488) = true := beq_iff_eq.mpr c29
    have c29b1 : (t486 != t488) = false := bne_eq_false_iff_eq.mpr c29
    clear c29
    (first | rw [c29b0] | (simp only [i64_w, i32_w]; rw [c29b0]) | skip)
    by_cases c30 : t487 = t489
    ·rw [if_pos c30] at H
     have c30b0 : (t487 == t489) = true := beq_iff_eq.mpr c30
     have c30b1 : (t487 != t489) = false := bne_eq_false_iff_eq.mpr c30
     clear c30
     by_cases c31 : (!(t490 == t497) || (!(t491 == t498) || (!(t492 == t499) || (!(t493 == t500) || (!(t494.toList == t501.toList)))))) = true
     ·rw [if_pos c31] at H
      have c31b0 : (!(t490 == t497) || (!(t491 == t498) || (!(t492 == t499) || (!(t493 == t500) || (!(t494.toList == t501.toList)))))) = true := c31
      clear c31
      exfalso
      have hq := HT_.out
      subst hq
      cases k with
      | zero => cases H
      | succ k => rw [cambiumlaw14_DirsAsks.j0, if_pos rfl] at H; cases H
     rw [if_neg c31] at H
     have c31b0 : (!(t490 == t497) || (!(t491 == t498) || (!(t492 == t499) || (!(t493 == t500) || (!(t494.toList == t501.toList)))))) = false := by simpa using c31
     clear c31
     by_cases c36 : t495 = t502
     ·rw [if_pos c36] at H
      have c36b0 : (t495 == t502) = true := beq_iff_eq.mpr c36
      have c36b1 : (t495 != t502) = false := bne_eq_false_iff_eq.mpr c36
      clear c36
      by_cases c37 : t505 = t509
      ·rw [if_pos c37] at H
       have c37b0 : (t505 == t509) = true := beq_iff_eq.mpr c37
       have c37b1 : (t505 != t509) = false := bne_eq_false_iff_eq.mpr c37
       clear c37
       by_cases c38 : (t504.length : Int) = (t508.length : Int)
       ·rw [if_pos c38] at H
        have c38b0 : ((t504.length : Int) == (t508.length : Int)) = true := beq_iff_eq.mpr c38
        have c38b1 : ((t504.length : Int) != (t508.length : Int)) = false := bne_eq_false_iff_eq.mpr c38
        have c38b2 : (t504.length == t508.length) = true := by first | simpa using c38 | (simp at c38 ⊢; omega)
        clear c38
        by_cases c39 : t512 = t514
        ·rw [if_pos c39] at H
         have c39b0 : (t512 == t514) = true := beq_iff_eq.mpr c39
         have c39b1 : (t512 != t514) = false := bne_eq_false_iff_eq.mpr c39
         clear c39
         by_cases c40 : t513 = t515
         ·rw [if_pos c40] at H
          have c40b0 : (t513 == t515) = true := beq_iff_eq.mpr c40
          have c40b1 : (t513 != t515) = false := bne_eq_false_iff_eq.mpr c40
          clear c40
          replace H := Option.bind_eq_some_iff.mp H
          obtain ⟨t517, A410, H⟩ := H
          try dsimp only at H
          have A41 := ak_ A410
          clear A410
          replace H := Option.bind_eq_some_iff.mp H
          obtain ⟨t518, A420, H⟩ := H
          try dsimp only at H
          have A42 := ak_ A420
          clear A420
          by_cases c43 : t517 = t518
          ·rw [if_pos c43] at H
           have c43b0 : (t517 == t518) = true := beq_iff_eq.mpr c43
           have c43b1 : (t517 != t518) = false := bne_eq_false_iff_eq.mpr c43
           clear c43
           replace H := Option.bind_eq_some_iff.mp H
           obtain ⟨t519, A440, H⟩ := H
           try dsimp only at H
           have A44 := ak_ A440
           clear A440
           replace H := Option.bind_eq_some_iff.mp H
           obtain ⟨t522, A450, H⟩ := H
           try dsimp only at H
           have A45 := ak_ A450
           clear A450
           replace H := Option.bind_eq_some_iff.mp H
           obtain ⟨t525, A460, H⟩ := H
           try dsimp only at H
           have A46 := ak_ A460
           clear A460
           have H' := ak_ H
           clear H
           go_wp2_with (first | (go_at_call 12; (with_reducible refine (cambiumlaw14_lives.calls k  true _ A27.out).mono ?_); rintro e w47 ⟨rfl, hb⟩; replace HO507 := rb_ HO507 hb; replace HO511 := rb_ HO511 hb; replace BK496 := kb_ BK496 hb; replace BK503 := kb_ BK503 hb; replace HB := hb_ hb; (try clear hb); have hnb48 := NB496_503.out; have hnc48 := NB503_496.out; obtain ⟨hcz49_0, hcz49_1, hcz49_2, hcz49_3, hcz49_4⟩ := cl5_ BK496; obtain ⟨hfz49_0, hfz49_1, hfz49_2, hfz49_3, hfz49_4⟩ := fz5_ BK496; obtain ⟨hcz50_0, hcz50_1, hcz50_2, hcz50_3, hcz50_4⟩ := cl5_ BK503; obtain ⟨hfz50_0, hfz50_1, hfz50_2, hfz50_3, hfz50_4⟩ := fz5_ BK503; obtain ⟨Ao51, co51, eo51⟩ := Kd.R_slice HO507.out; subst eo51; obtain ⟨Ao52, co52, eo52⟩ := Kd.R_slice HO511.out; subst eo52) | (go_at_call 13; (with_reducible refine (dirs_Check.calls k _ _ l0 t517 _ ?side1 ?side2 A41.out).mono ?_); (case side1 => exact cb_ HR0); (case side2 => exact HC0.out); rintro e w53 ⟨rfl, hb⟩; replace HO507 := rb_ HO507 hb; replace HO511 := rb_ HO511 hb; replace BK496 := kb_ BK496 hb; replace BK503 := kb_ BK503 hb; replace HB := hb_ hb; (try clear hb)) | (go_at_call 14; (with_reducible refine (cambiumref14_Check.calls k _ _ l0 t518 _ ?side1 ?side2 A42.out).mono ?_); (case side1 => exact cb_ HR0); (case side2 => exact HC0.out); rintro e w54 ⟨rfl, hb⟩; replace HO507 := rb_ HO507 hb; replace HO511 := rb_ HO511 hb; replace BK496 := kb_ BK496 hb; replace BK503 := kb_ BK503 hb; replace HB := hb_ hb; (try clear hb)) | (go_at_call 16; (with_reducible refine (dirs_New.calls k  t519 _ A44.out).mono ?_); rintro e w55 ⟨v520, rfl, ho0, hb⟩; have HO521 := rl_ ho0; replace HO507 := rb_ HO507 hb; replace HO511 := rb_ HO511 hb; replace BK496 := kb_ BK496 hb; replace BK503 := kb_ BK503 hb; replace HB := hb_ hb; (try clear hb); (try clear ho0)) | (go_at_call 17; (with_reducible refine (cambiumref14_New.calls k  t522 _ A45.out).mono ?_); rintro e w56 ⟨v523, rfl, ho0, hb⟩; have HO524 := ak_ (Kd.R_lower (Kd.R_new' ho0 (Kd.R_lt (ra_ HO521))) (below_size bel_)); replace HO507 := rb_ HO507 hb; replace HO511 := rb_ HO511 hb; replace HO521 := ak_ (Kd.R_elder' (ra_ HO521) (Kd.R_base ho0) hb); replace BK496 := kb_ BK496 hb; replace BK503 := kb_ BK503 hb; replace HB := hb_ hb; (try clear hb); (try clear ho0); obtain ⟨Ao57, co57, eo57⟩ := Kd.R_slice HO521.out; subst eo57; obtain ⟨Ao58, co58, eo58⟩ := Kd.R_slice HO524.out; subst eo58) | (go_at_call 15; (with_reducible refine (cambiumref04_Same.calls k _ _ t519 _ _ t522 t525 _ ?side1 ?side2 ?side3 ?side4 A46.out).mono ?_); (case side1 => exact cr_ HO521); (case side2 => exact (Kd.R_reads' HO521.out).2.1); (case side3 => exact cr_ HO524); (case side4 => exact (Kd.R_reads' HO524.out).2.1); rintro e w' ⟨rfl, ⟨nd, rfl⟩⟩; (try first | exact ⟨rfl, _, World.drewN_drewN _ _ _⟩ | exact ⟨rfl, _, Eq.trans (World.drewN_drewN _ _ _) (congrArg (World.drewN _) (Nat.add_assoc _ _ _))⟩)))
           go_meet
           case rel => exact ⟨_, (!t525), rfl, H', ⟨by first | omega | exact Nat.le_refl _⟩, ⟨by (with_reducible repeat (first | apply Kd.R_alloc | apply Kd.R_drewN | apply Kd.R_drew)); exact Kd.R_mono HO507.out (fun _ hk => hk.2)⟩, ⟨by (with_reducible repeat (first | apply Kd.R_alloc | apply Kd.R_drewN | apply Kd.R_drew)); exact Kd.R_mono HO511.out (fun _ hk => hk.2)⟩, ⟨bk_ BK496⟩, ⟨bk_ BK503⟩, ⟨bel_⟩⟩
          rw [if_neg c43] at H
          have c43b0 : (t517 == t518) = false := beq_eq_false_iff_ne.mpr c43
          have c43b1 : (t517 != t518) = true := bne_iff_ne.mpr c43
          exfalso
          have hq := HT_.out
          subst hq
          cases k with
          | zero => cases H
          | succ k => rw [cambiumlaw14_DirsAsks.j0, if_pos rfl] at H; cases H
         rw [if_neg c40] at H
         have c40b0 : (t513 == t515) = false := beq_eq_false_iff_ne.mpr c40
         have c40b1 : (t513 != t515) = true := bne_iff_ne.mpr c40
         exfalso
         have hq := HT_.out
         subst hq
         cases k with
         | zero => cases H
         | succ k => rw [cambiumlaw14_DirsAsks.j0, if_pos rfl] at H; cases H
        rw [if_neg c39] at H
        have c39b0 : (t512 == t514) = false := beq_eq_false_iff_ne.mpr c39
        have c39b1 : (t512 != t514) = true := bne_iff_ne.mpr c39
        exfalso
        have hq := HT_.out
        subst hq
        cases k with
        | zero => cases H
        | succ k => rw [cambiumlaw14_DirsAsks.j0, if_pos rfl] at H; cases H
       rw [if_neg c38] at H
       have c38b0 : ((t504.length : Int) == (t508.length : Int)) = false := beq_eq_false_iff_ne.mpr c38
       have c38b1 : ((t504.length : Int) != (t508.length : Int)) = true := bne_iff_ne.mpr c38
       have c38b2 : (t504.length == t508.length) = false := by first | simpa using c38 | (simp at c38 ⊢; omega)
       exfalso
       have hq := HT_.out
       subst hq
       cases k with
       | zero => cases H
       | succ k => rw [cambiumlaw14_DirsAsks.j0, if_pos rfl] at H; cases H
      rw [if_neg c37] at H
      have c37b0 : (t505 == t509) = false := beq_eq_false_iff_ne.mpr c37
      have c37b1 : (t505 != t509) = true := bne_iff_ne.mpr c37
      exfalso
      have hq := HT_.out
      subst hq
      cases k with
      | zero => cases H
      | succ k => rw [cambiumlaw14_DirsAsks.j0, if_pos rfl] at H; cases H
     rw [if_neg c36] at H
     have c36b0 : (t495 == t502) = false := beq_eq_false_iff_ne.mpr c36
     have c36b1 : (t495 != t502) = true := bne_iff_ne.mpr c36
     exfalso
     have hq := HT_.out
     subst hq
     cases k with
     | zero => cases H
     | succ k => rw [cambiumlaw14_DirsAsks.j0, if_pos rfl] at H; cases H
    rw [if_neg c30] at H
    have c30b0 : (t487 == t489) = false := beq_eq_false_iff_ne.mpr c30
    have c30b1 : (t487 != t489) = true := bne_iff_ne.mpr c30
    exfalso
    have hq := HT_.out
    subst hq
    cases k with
    | zero => cases H
    | succ k => rw [cambiumlaw14_DirsAsks.j0, if_pos rfl] at H; cases H
   rw [if_neg c29] at H
   have c29b0 : (t486 == t488) = false := beq_eq_false_iff_ne.mpr c29
   have c29b1 : (t486 != t488) = true := bne_iff_ne.mpr c29
   (first | rw [c29b0] | (simp only [i64_w, i32_w]; rw [c29b0]) | skip)
   exfalso
   have hq := HT_.out
   subst hq
   cases k with
   | zero => cases H
   | succ k => rw [cambiumlaw14_DirsAsks.j0, if_pos rfl] at H; cases H
  replace c28 := Bool.eq_false_iff.mpr c28
  subst c28
  rw [if_neg (show ¬ (false = true) by decide)] at H
  exfalso
  have hq := HT_.out
  subst hq
  cases k with
  | zero => cases H
  | succ k =>
   rw [cambiumlaw14_DirsAsks.j0, if_pos rfl] at H
   cases H
 case rest =>
  clear HC13
  obtain ⟨kq, x130_12, rfl, HA, HJ12, HO_17, HO_19, BK496, BK503, HB⟩ := hcut
  cases kq with
  | zero => exact absurd HA.out (by simp [cambiumlaw14_DirsAsks.j0])
  | succ kj12 =>
   have H := HA.out
   clear HA
   simp only [cambiumlaw14_DirsAsks.j0] at H
   by_cases c96 : x130_12 = true
   ·subst c96
    rw [if_pos rfl] at H
    exact absurd ((Option.some.inj H).trans HT_.out) (by simp)
   replace c96 := Bool.eq_false_iff.mpr c96
   subst c96
   rw [if_neg (show ¬ (false = true) by decide)] at H
   have H' := ak_ H
   clear H
   obtain ⟨Ao97, co97, eo97⟩ := Kd.R_slice HO_17.out
   subst eo97
   go_wp2
   go_loopg [133] kj12 (fun kq v133 w' => ∃ (x133_2 : Int), v133 = .int .i64 x133_2 ∧ Aside0 (cambiumlaw14_DirsAsks.l0 kq t504 t508 (t504.length : Int) x133_2 = some r) ∧ Aside0 (kq ≤ kj12) ∧ Aside0 (Kd.R k43 43 w' w.heap.size (fun k_ => some k_ ≠ (v510 : Value).ownBlock) (.slice Ao97 t504.length co97) t504) ∧ Aside0 (Kd.R k43 43 w' w.heap.size (fun k_ => some k_ ≠ ((.slice Ao97 t504.length co97) : Value).ownBlock) v510 t508) ∧ Aside0 (w'.heap[gb496]? = some (.cells #[.int .u8 t490, .int .u16 t491, .int .u32 t492, .int .u32 t493, .string t494] 31 (0, 0))) ∧ Aside0 (w'.heap[gb503]? = some (.cells #[.int .u8 t497, .int .u16 t498, .int .u32 t499, .int .u32 t500, .string t501] 31 (0, 0))) ∧ Aside0 (Below w.heap.size w w'))
   case atStart => exact ⟨(0), rfl, H', ⟨Nat.le_refl _⟩, ⟨ra_ HO_17⟩, ⟨ra_ HO_19⟩, ⟨bk_ BK496⟩, ⟨bk_ BK503⟩, ⟨bel_⟩⟩
   case round =>
    clear H'
    obtain ⟨x133_2, rfl, HA, HK2, HO_17, HO_19, BK496, BK503, HB⟩ := hrel
    cases gk with
    | zero => exact absurd HA.out (by simp [cambiumlaw14_DirsAsks.l0])
    | succ k2 =>
     have H := HA.out
     clear HA
     simp only [cambiumlaw14_DirsAsks.l0] at H
     by_cases c98 : x133_2 < (t504.length : Int)
     ·rw [if_pos c98] at H
      have c98b0 : decide (x133_2 < (t504.length : Int)) = true := decide_eq_true c98
      clear c98
      by_cases c99 : 0 ≤ x133_2
      ·rw [if_pos c99] at H
       have c99b0 : decide (0 ≤ x133_2) = true := decide_eq_true c99
       clear c99
       by_cases c100 : x133_2 < (t504.length : Int)
       ·rw [if_pos c100] at H
        have c100b0 : decide (x133_2 < (t504.length : Int)) = true := decide_eq_true c100
        clear c100
        by_cases c101 : x133_2 < (t508.length : Int)
        ·rw [if_pos c101] at H
         have c101b0 : decide (x133_2 < (t508.length : Int)) = true := decide_eq_true c101
         clear c101
         by_cases c102 : (!((((rd_T43 t504 x133_2).f0).toList) == (((rd_T43 t508 x133_2).f0).toList)) || (!(((rd_T43 t504 x133_2).f1) == ((rd_T43 t508 x133_2).f1)) || (!(((rd_T43 t504 x133_2).f2) == ((rd_T43 t508 x133_2).f2))))) = true
         ·rw [if_pos c102] at H
          have c102b0 : (!((((rd_T43 t504 x133_2).f0).toList) == (((rd_T43 t508 x133_2).f0).toList)) || (!(((rd_T43 t504 x133_2).f1) == ((rd_T43 t508 x133_2).f1)) || (!(((rd_T43 t504 x133_2).f2) == ((rd_T43 t508 x133_2).f2))))) = true := c102
          clear c102
          exact absurd ((Option.some.inj H).trans HT_.out) (by simp)
         rw [if_neg c102] at H
         have c102b0 : (!((((rd_T43 t504 x133_2).f0).toList) == (((rd_T43 t508 x133_2).f0).toList)) || (!(((rd_T43 t504 x133_2).f1) == ((rd_T43 t508 x133_2).f1)) || (!(((rd_T43 t504 x133_2).f2) == ((rd_T43 t508 x133_2).f2))))) = false := by simpa using c102
         clear c102
         have H' := ak_ H
         clear H
         have p526 : 0 ≤ (x133_2 : Int) := of_decide_eq_true (by first | (with_reducible assumption) | assumption)
         have q526 : x133_2 < (t504.length : Int) := of_decide_eq_true (by first | (with_reducible assumption) | assumption)
         obtain ⟨ad526, e526, hx526_0, hx526_1, hx526_2⟩ := at_T43 (Kd.R_reads' HO_17.out).2.2 x133_2 p526 q526
         cases e526
         replace p526 := eq_true p526
         replace q526 := eq_true q526
         obtain ⟨Ao103, co103, eo103⟩ := Kd.R_slice HO_19.out
         subst eo103
         have p527 : 0 ≤ (x133_2 : Int) := of_decide_eq_true (by first | (with_reducible assumption) | assumption)
         have q527 : x133_2 < (t508.length : Int) := of_decide_eq_true (by first | (with_reducible assumption) | assumption)
         obtain ⟨ad527, e527, hx527_0, hx527_1, hx527_2⟩ := at_T43 (Kd.R_reads' HO_19.out).2.2 x133_2 p527 q527
         cases e527
         replace p527 := eq_true p527
         replace q527 := eq_true q527
         go_wp2
         repeat (go_quiet (fail); try go_wp2)
         go_roundg k2
         case measure => have := HJ12.out; have := HK2.out; omega
         case rel => exact ⟨(wrap64 (x133_2 + 1)), rfl, H', ⟨by have := HJ12.out; have := HK2.out; omega⟩, ⟨ra_ HO_17⟩, ⟨ra_ HO_19⟩, ⟨bk_ BK496⟩, ⟨bk_ BK503⟩, ⟨bel_⟩⟩
        rw [if_neg c101] at H
        exact absurd H (by simp)
       rw [if_neg c100] at H
       exact absurd H (by simp)
      rw [if_neg c99] at H
      exact absurd H (by simp)
     rw [if_neg c98] at H
     have c98b0 : decide (x133_2 < (t504.length : Int)) = false := decide_eq_false c98
     clear c98
     obtain rfl := Option.some.inj H
     go_wp2
     go_ret
     exact ⟨rfl, bel_⟩
end Go.Proofs.YtpnmajblhgnkoaaGreat.Z
end

section
namespace Go.Proofs.YtpnmajblhgnkoaaGreat.Pure
open Go.Proofs.YtpnmajblhgnkoaaGreat Go.Proofs.YtpnmajblhgnkoaaGreat.Z Go.Proofs.YtpnmajblhgnkoaaGreat.PM
theorem asks_l0 (x : List S43) (hl : x.length ≤ 9223372036854775806) : ∀ d i : Nat, x.length = i + d → Ev (fun k => cambiumlaw14_DirsAsks.l0 k x x (x.length : Int) (i : Int)) true := by
  intro d
  induction d with
  | zero =>
    intro i hi
    refine Ev.step (fun k => by rw [cambiumlaw14_DirsAsks.l0]) ?_
    exact Ev.ifn (by omega) (Ev.const rfl)
  | succ d ih =>
    intro i hi
    have hlt : i < x.length := by omega
    refine Ev.step (fun k => by rw [cambiumlaw14_DirsAsks.l0]) ?_
    rw [w64 (i := (i : Int) + 1) (by omega) (by omega)]
    refine Ev.ifp (by omega) (Ev.ifp (by omega) (Ev.ifp (by omega) (Ev.ifp (by omega) (Ev.ifn ?_ ?_))))
    · simp
    · exact ih (i + 1) (by omega)
theorem bulk_len (l : List It) : l.length ≤ (l.map Z.B56).sum := by
  induction l with
  | nil => simp
  | cons x r ih => simp only [List.map_cons, List.sum_cons, List.length_cons, Z.B56]; omega
theorem bulk_names (l : List ByteArray) : l.length ≤ (l.map (fun s : ByteArray => s.size + 1)).sum := by
  induction l with
  | nil => simp
  | cons x r ih => simp only [List.map_cons, List.sum_cons, List.length_cons]; omega
theorem listR_len (l : List It) (a : Int) : (listR (lookS l) a).1.length ≤ l.length := by
  cases h : lookS l with
  | none => exact Nat.zero_le _
  | some s =>
    cases hm : s.ino a with
    | none =>
      have e : listR (some s) a = ([], 5) := by unfold listR; simp only [hm]
      rw [e]; exact Nat.zero_le _
    | some n =>
      by_cases hk : n.kd = 1
      · have e : listR (some s) a = (listS s a, 0) := by unfold listR; simp only [hm]; rw [if_pos hk]
        rw [e]
        show (listS s a).length ≤ l.length
        unfold listS
        rw [List.length_map]
        refine Nat.le_trans (List.length_filter_le ..) ?_
        rw [(look_rt h).inv.all, List.length_map]; exact Nat.le_refl _
      · have e : listR (some s) a = ([], 12) := by unfold listR; simp only [hm]; rw [if_neg hk]
        rw [e]; exact Nat.zero_le _
theorem DirsAsks : ∀ (l0 : List (S56)) (l1 : List ByteArray) (a2 : Bool) (a3 : Int), l0.length ≤ maxLen → (∀ x ∈ l0, Z.G56 x) → l1.length ≤ maxLen → (∀ x ∈ l1, (fun s : ByteArray => s.size ≤ maxLen) x) → (Lit.int .u32 a3).wf = true → ((l0.map Z.B56).sum + 1) + ((l1.map (fun s : ByteArray => s.size + 1)).sum + 1) + 1 + 1 ≤ 1048576 → ∃ k, Z.cambiumlaw14_DirsAsks.f k l0 l1 a2 a3 = some true := by
  intro l ns follow a _ hf _ hns hw hb
  have hf : Fit l := hf
  have ha := wf32 hw
  have hl := bulk_len l
  have hn := bulk_names ns
  have hm : maxLen ≤ 9223372036854775807 := by decide
  have hs : ∀ x ∈ ns, x.size ≤ 9223372036854775807 := fun x hx => Nat.le_trans (hns x hx) hm
  have hl1 : l.length ≤ 1048576 := by omega
  have hn1 : ns.length ≤ 1048576 := by omega
  clear hb hl hn hm hns
  obtain ⟨r, n1, n2⟩ := next_both hf hl1
  have hl2 : l.length ≤ 4398046511103 := by omega
  refine Ev.rounds ?_
  unfold cambiumlaw14_DirsAsks.f
  refine Ev.bind (Walk_f hf hl2 ns (by omega) follow) ?_
  refine Ev.bind (rWalk_f hl2 ns hn1 hs follow) ?_
  refine Ev.bind (Get_f hf hl2 ha) ?_
  refine Ev.bind (rGet_f hl2 ha) ?_
  refine Ev.bind (List_f hf hl2 ha) ?_
  refine Ev.bind (rList_f hl2 ha) ?_
  refine Ev.bind n1 ?_
  refine Ev.bind n2 ?_
  refine Ev.bind lives_f ?_
  have hll := listR_len l a
  generalize listR (lookS l) a = L at hll ⊢
  refine Ev.ifp rfl (Ev.ifp rfl (Ev.ifp rfl (Ev.ifn (by simp) (Ev.ifp rfl (Ev.ifp rfl (Ev.ifp rfl (Ev.ifp rfl (Ev.ifp rfl ?_))))))))
  refine Ev.bind (Check_f hf hl2) ?_
  refine Ev.bind (rCheck_look hl2) ?_
  refine Ev.ifp rfl ?_
  refine Ev.bind New_f ?_
  refine Ev.bind rNew_f ?_
  refine Ev.bind same_new ?_
  refine Ev.step (fun k => by rw [cambiumlaw14_DirsAsks.j0]) ?_
  refine Ev.ifn (by decide) ?_
  exact asks_l0 L.1 (by omega) L.1.length 0 (Nat.zero_add _).symm
end Go.Proofs.YtpnmajblhgnkoaaGreat.Pure
end

section
namespace Go.Proofs.YtpnmajblhgnkoaaGreat.dirsAsks
open Go.ChangeShapes Go.WideShapes Go.ChangeAt Go.RowKit
open Go.ChangeMaps (open_string shut_string)
theorem own : ownKnob Tryz.prog.godebug = none := by kernel_rfl
theorem laidOut : laidOutB Tryz.prog = true := by kernel_rfl
set_option maxHeartbeats 1000000 in
set_option maxRecDepth 100000 in
theorem lifted (os : Os) (started : os.Started) (H : Type) (enc : TypeId × Value → H) (F : Stop.Interp) :
    ReturnsInHanded {} Tryz.checked os 3 .any ((Rows.OpenSpec.upto Rows.dirsAsksSpec).pre6 enc Tryz.prog Tryz.f3 Rows.dirsAsksUptoRow.domain false) (((Rows.OpenSpec.upto Rows.dirsAsksSpec).at F).post enc Tryz.prog Tryz.f3 false true false false) := by
  refine returnsInHanded_of_cond_sized (C := Tryz.checked) (s := Rows.OpenSpec.upto Rows.dirsAsksSpec) (k := Rows.uptoSmall) rfl own started (by kernel_rfl) Tryz.func3
    (OpenSpec.witness (enc := enc) (C := Tryz.checked) (s := Rows.OpenSpec.upto Rows.dirsAsksSpec) (k := Rows.uptoSmall) rfl false ⟨#[], #[.slice none 0 0, .slice none 0 0, .bool false, .int .u32 0], []⟩ 8 (by kernel_rfl) (by kernel_rfl) (by kernel_rfl)
      (x := ([.nil, .nil, .lit (.bool false), .lit (.int .u32 0)], [], [])) (by kernel_rfl) rfl (by kernel_rfl)) ?_
  intro W base args ds gs before hval0 hW hcnd hk0 hwz_ _
  have hsz : (DataW.weightsEach Tryz.prog (Tryz.f3.params.toList ++ Rows.dirsAsksSpec.plain.varTypes Tryz.prog) (ds ++ gs)).all (· ≤ reachBytes) = true := hwz_
  have hval : ∀ (j : Nat) t v, Tryz.f3.params[j]? = some t → args[j]? = some v → Value.okWide Tryz.prog W .any base t v := hval0
  have hW' := hW
  obtain ⟨p, q, hA0, hV, rfl, hfz, hnd⟩ := hW
  have hA : DataW.TrodAll enc Tryz.prog W 0 (fun _ => true) true Tryz.f3.params.toList args.toList ds p := hA0
  rw [Tryz.params3] at hA hval hsz
  obtain ⟨v0, vs0, d0, ds0, p0, q0, hargs, rfl, rfl, h0, r0⟩ := trodAll_cons hA
  obtain ⟨v1, vs1, d1, ds1, p1, q1, rfl, rfl, rfl, h1, r1⟩ := trodAll_cons r0
  obtain ⟨v2, vs2, d2, ds2, p2, q2, rfl, rfl, rfl, h2, r2⟩ := trodAll_cons r1
  obtain ⟨v3, vs3, d3, ds3, p3, q3, rfl, rfl, rfl, h3, r3⟩ := trodAll_cons r2
  obtain ⟨rfl, rfl, rfl⟩ := trodAll_nil r3
  obtain rfl : args = #[v0, v1, v2, v3] := by cases args; simp_all
  obtain ⟨rfl, rfl⟩ := trodVars_none hV
  have k0 := h0
  have lt0 : ∀ x ∈ p0, x.block < W.heap.size := by obtain ⟨m, hm⟩ := k0; exact DataW.trod_lt m _ _ _ hm
  obtain ⟨a0, len0, cap0, rfl⟩ := okWide_slice Tryz.underlying22 (hval 0 22 v0 rfl rfl)
  obtain ⟨fuel0, hf0⟩ := h0
  obtain ⟨A0, c0, l0, hcs0, hlc0, hcm0, hC0, hG0, hB0, hx0⟩ := Z.Opens.row Tryz.underlying22 Z.opens56 (of_decide_eq_true (by kernel_rfl)) hf0
  simp only [Value.cells, List.cons.injEq, Value.slice.injEq, and_true] at hcs0
  obtain ⟨rfl, rfl, rfl⟩ := hcs0
  have hlm0 : l0.length ≤ maxLen := Nat.le_trans hlc0 hcm0
  have k1 := h1
  have lt1 : ∀ x ∈ p1, x.block < W.heap.size := by obtain ⟨m, hm⟩ := k1; exact DataW.trod_lt m _ _ _ hm
  obtain ⟨a1, len1, cap1, rfl⟩ := okWide_slice Tryz.underlying23 (hval 1 23 v1 rfl rfl)
  obtain ⟨fuel1, hf1⟩ := h1
  obtain ⟨A1, c1, l1, hcs1, hlc1, hcm1, hC1, hG1, hB1, hx1⟩ := Z.Opens.row Tryz.underlying23 (Z.Opens.string Tryz.underlying9 (by kernel_rfl)) (of_decide_eq_true (by kernel_rfl)) hf1
  simp only [Value.cells, List.cons.injEq, Value.slice.injEq, and_true] at hcs1
  obtain ⟨rfl, rfl, rfl⟩ := hcs1
  have hlm1 : l1.length ≤ maxLen := Nat.le_trans hlc1 hcm1
  have k2 := h2
  have lt2 : ∀ x ∈ p2, x.block < W.heap.size := by obtain ⟨m, hm⟩ := k2; exact DataW.trod_lt m _ _ _ hm
  obtain ⟨a2, rfl, rfl, rfl⟩ := open_bool Tryz.underlying4 (hval 2 4 v2 rfl rfl) h2
  have k3 := h3
  have lt3 : ∀ x ∈ p3, x.block < W.heap.size := by obtain ⟨m, hm⟩ := k3; exact DataW.trod_lt m _ _ _ hm
  obtain ⟨a3, rfl, rfl, rfl, w3⟩ := open_int Tryz.underlying24 (hval 3 24 v3 rfl rfl) h3
  have hbk : ((l0.map Z.B56).sum + 1) + ((l1.map (fun s : ByteArray => s.size + 1)).sum + 1) + 1 + 1 ≤ 1048576 := by
    have hb_ := of_decide_eq_true hk0
    simp only [Rows.uptoBulkAll, Rows.uptoBulk, List.append_nil, Array.length_toList, List.map_cons, List.map_nil] at hb_
    (try simp only [show ∀ s : ByteArray, s.data.size = s.size from fun _ => rfl] at hb_)
    (try dsimp only at hB0)
    (try dsimp only at hB1)
    omega
  have hP := Pure.DirsAsks l0 l1 a2 a3 hlm0 hG0 hlm1 hG1 w3 hbk
  obtain ⟨k, hk⟩ := hP
  refine (Z.cambiumlaw14_DirsAsks.calls k _ _ l0 _ _ l1 a2 a3 true W hC0 hlc0 hC1 hlc1 hk).mono fun e W' ⟨he, bel0⟩ => ?_
  have bel : Below W.heap.size W W' := bel0
  subst he
  exact ⟨_, rfl, _, _, _, [], _, [], hW', trodAll_mk1 (shut_bool Tryz.underlying4 _), (trodAll_cons_mk (Below.trod laidOut (by kernel_rfl) (of_decide_eq_true (by kernel_rfl)) k0 bel lt0) (trodAll_cons_mk (Below.trod laidOut (by kernel_rfl) (of_decide_eq_true (by kernel_rfl)) k1 bel lt1) (trodAll_cons_mk (Below.trod laidOut (by kernel_rfl) (of_decide_eq_true (by kernel_rfl)) k2 bel lt2) (trodAll_cons_mk (Below.trod laidOut (by kernel_rfl) (of_decide_eq_true (by kernel_rfl)) k3 bel lt3) trodAll_mk0)))), rfl, bel.frame _, fun h => by cases h⟩
theorem over : Rows.dirsAsksUptoRow.holds Tryz.pinned (Rows.OpenSpec.upto Rows.dirsAsksSpec) :=
  OpenClaim.holds_of_cond 3 Tryz.f3 rfl rfl rfl rfl rfl rfl rfl ⟨rfl, rfl, rfl, rfl, rfl⟩ rfl rfl rfl rfl rfl (by kernel_rfl) Tryz.func3 (by kernel_rfl)
    (of_decide_eq_true (by kernel_rfl)) (by unfold Func.isWrapper; first | (rw [if_pos (by decide +kernel)]; kernel_rfl) | (rw [if_neg (by decide +kernel)]; exact ⟨rfl, rfl⟩))
    (fun os started H enc _ F => lifted os started H enc F)
end Go.Proofs.YtpnmajblhgnkoaaGreat.dirsAsks
namespace Go.Proofs.YtpnmajblhgnkoaaGreat
theorem dirsAsks_holds : Rows.DirsAsksUptoSaid := dirsAsks.over
#print axioms dirsAsks_holds
end Go.Proofs.YtpnmajblhgnkoaaGreat
end
