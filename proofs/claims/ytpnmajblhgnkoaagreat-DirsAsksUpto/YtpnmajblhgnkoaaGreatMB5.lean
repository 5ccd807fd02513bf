/- This session's own texts, laid together (a part that several claims share). -/
import Derived.Test.YtpnmajblhgnkoaaGreatMB1
import Derived.Test.YtpnmajblhgnkoaaGreatMB4
import Derived.Test.YtpnmajblhgnkoaaGreatMB3
import Derived.Test.YtpnmajblhgnkoaaGreatRows
import Derived.Lib.SmallJoins
import Derived.Deep.Strs
import Derived.SizedLaws
import Derived.ChangeArms
open Go.RowKit Go.Proofs.YtpnmajblhgnkoaaGreatW.PrintWords Go.Proofs.YtpnmajblhgnkoaaGreatW.PrintLast Go.Proofs.YtpnmajblhgnkoaaGreatW.PrintMore
set_option linter.unusedVariables false
set_option linter.unusedSimpArgs false
section
namespace Go.Proofs.YtpnmajblhgnkoaaGreat.Z
attribute [local go_sem] max2_int min2_int max_two min_two max_three min_three max_four min_four   -- for this text's walks alone
def cambiumref14_up.l0 : Nat → Int → Int → Int → List (S56) → Int → Int → Option (Int × Int)
 | 0, _, _, _, _, _, _ => none
 | k + 1, x1, x6, x7, x12, x13, x14 => if x14 < x13 then (if 0 ≤ x14 then (if x14 < (x12.length : Int) then ((cambiumref12_Parse.f k ((rd_T56 x12 x14).f0)).bind fun bt298 => (if bt298.1 = 2 then ((cambiumref14_named.f k ((rd_T56 x12 x14).f0) ((rd_T56 x12 x14).f1)).bind fun t304 => (if t304 = x1 then (cambiumref14_up.l0 k x1 (wrap64 (x6 + 1)) bt298.2.1 x12 x13 (wrap64 (x14 + 1))) else (cambiumref14_up.l0 k x1 x6 x7 x12 x13 (wrap64 (x14 + 1))))) else (cambiumref14_up.l0 k x1 x6 x7 x12 x13 (wrap64 (x14 + 1))))) else (none)) else (none)) else (some (x6, x7))
def cambiumref14_up.f (k : Nat) (l0 : List (S56)) (a1 : Int) : Option (Int × Int) := cambiumref14_up.l0 k a1 0 0 l0 (l0.length : Int) 0
theorem cambiumref14_up.mono_l : ∀ k, (∀ y0 y1 y2 y3 y4 y5, LeO (cambiumref14_up.l0 k y0 y1 y2 y3 y4 y5) (cambiumref14_up.l0 (k + 1) y0 y1 y2 y3 y4 y5))
 | 0 => by intros; intro r h; simp [cambiumref14_up.l0] at h
 | k + 1 => by
  have ih0 := cambiumref14_up.mono_l k
  intros
  unfold cambiumref14_up.l0
  repeat' (first | (with_reducible first | exact ih0 _ _ _ _ _ _ | exact cambiumref12_Parse.mono _ _ | exact cambiumref14_named.mono _ _ _ | exact LeO.refl _ | exact LeO.none _ | refine LeO.ite ?_ ?_ | refine LeO.bind ?_ (fun _ => ?_)))
theorem cambiumref14_up.mono : ∀ a0 a1 k, LeO (cambiumref14_up.f k a0 a1) (cambiumref14_up.f (k + 1) a0 a1) := by
 intro a0 a1 k
 have ih0 := cambiumref14_up.mono_l k
 unfold cambiumref14_up.f
 repeat' (first | (with_reducible first | exact ih0 _ _ _ _ _ _ | exact cambiumref12_Parse.mono _ _ | exact cambiumref14_named.mono _ _ _ | exact LeO.refl _ | exact LeO.none _ | refine LeO.ite ?_ ?_ | refine LeO.bind ?_ (fun _ => ?_)))
set_option maxHeartbeats 64000000 in
set_option maxRecDepth 100000 in
theorem cambiumref14_up.calls (k : Nat) (A0 : Option Addr) (c0 : Nat) (l0 : List (S56)) (a1 : Int) (r1 : Int) (r2 : Int) (w : World) (hr0 : Kd.C k56 w A0 l0.length l0) (hc0 : l0.length ≤ c0) (h : cambiumref14_up.f k l0 a1 = some (r1, r2)) :
  Calls Tryz.prog 31 #[.slice A0 l0.length c0, .int .u32 a1] w fun e w' => e = .returned (.tuple #[.int .i64 r1, .int .u32 r2]) ∧ Below w.heap.size w w' := by
 have hu56 := Tryz.underlying56
 have hu59 := Tryz.underlying59
 have HR0 := ak_ hr0
 have HC0 := ak_ hc0
 clear hr0 hc0
 have HB := ak_ (Below.refl w.heap.size w)
 have H : (cambiumref14_up.l0 k a1 0 0 l0 (l0.length : Int) 0) = some (r1, r2) := h
 clear h
 have H' := ak_ H
 clear H
 go_enter Tryz.func31, Tryz.ntmps31
 go_wp2
 go_loopg [6, 7, 14] k (fun kq v6 v7 v14 w' => ∃ (x6_1 : Int) (x7_1 : Int) (x14_1 : Int), v6 = .int .i64 x6_1 ∧ v7 = .int .u32 x7_1 ∧ v14 = .int .i64 x14_1 ∧ Aside0 (cambiumref14_up.l0 kq a1 x6_1 x7_1 l0 (l0.length : Int) x14_1 = some (r1, r2)) ∧ Aside0 (kq ≤ k) ∧ Aside0 (Below w.heap.size w w'))
 case atStart => exact ⟨(0), (0), (0), (by first | rfl | (simp; done) | (simp [*]; done)), (by first | rfl | (simp; done) | (simp [*]; done)), (by first | rfl | (simp; done) | (simp [*]; done)), H', ⟨Nat.le_refl _⟩, ⟨bel_⟩⟩
 case round =>
  clear H'
  obtain ⟨x6_1, x7_1, x14_1, rfl, rfl, rfl, HA, HK1, HB⟩ := hrel
  cases gk with
  | zero => exact absurd HA.out (by simp [cambiumref14_up.l0])
  | succ k1 =>
   have H := HA.out
   clear HA
   simp only [cambiumref14_up.l0] at H
   refine Or.elim (Classical.em (x14_1 < (l0.length : Int))) (fun c3 => ?p1_) (fun c3 => ?n1_)
   case' p1_ =>
    rw [if_pos c3] at H
    have c3b0 : decide (x14_1 < (l0.length : Int)) = true := decide_eq_true c3
    clear c3
    refine Or.elim (Classical.em (0 ≤ x14_1)) (fun c4 => ?p2_) (fun c4 => ?n2_)
    case' p2_ =>
     rw [if_pos c4] at H
     have c4b0 : decide (0 ≤ x14_1) = true := decide_eq_true c4
     clear c4
     refine Or.elim (Classical.em (x14_1 < (l0.length : Int))) (fun c5 => ?p3_) (fun c5 => ?n3_)
     case' p3_ =>
      rw [if_pos c5] at H
      have c5b0 : decide (x14_1 < (l0.length : Int)) = true := decide_eq_true c5
      clear c5
      replace H := Option.bind_eq_some_iff.mp H
      obtain ⟨⟨t298, t299, t300, t301, t302⟩, A60, H⟩ := H
      try dsimp only at H
      have A6 := ak_ A60
      clear A60
      refine Or.elim (Classical.em (t298 = 2)) (fun c7 => ?p4_) (fun c7 => ?n4_)
      case' p4_ =>
       rw [if_pos c7] at H
       have c7b0 : (t298 == 2) = true := beq_iff_eq.mpr c7
       have c7b1 : (t298 != 2) = false := bne_eq_false_iff_eq.mpr c7
       clear c7
       replace H := Option.bind_eq_some_iff.mp H
       obtain ⟨t304, A80, H⟩ := H
       try dsimp only at H
       have A8 := ak_ A80
       clear A80
       refine Or.elim (Classical.em (t304 = a1)) (fun c9 => ?p5_) (fun c9 => ?n5_)
       case' p5_ =>
        rw [if_pos c9] at H
        have c9b0 : (t304 == a1) = true := beq_iff_eq.mpr c9
        have c9b1 : (t304 != a1) = false := bne_eq_false_iff_eq.mpr c9
        clear c9
        refine ?z1_
       case' n5_ =>
        rw [if_neg c9] at H
        have c9b0 : (t304 == a1) = false := beq_eq_false_iff_ne.mpr c9
        have c9b1 : (t304 != a1) = true := bne_iff_ne.mpr c9
        refine ?z2_
      case' n4_ =>
       rw [if_neg c7] at H
       have c7b0 : (t298 == 2) = false := beq_eq_false_iff_ne.mpr c7
       have c7b1 : (t298 != 2) = true := bne_iff_ne.mpr c7
       refine ?z3_
     case n3_ =>
      rw [if_neg c5] at H
      exact absurd H (by simp)
    case n2_ =>
     rw [if_neg c4] at H
     exact absurd H (by simp)
   case n1_ =>
    rw [if_neg c3] at H
    have c3b0 : decide (x14_1 < (l0.length : Int)) = false := decide_eq_false c3
    clear c3
    simp only [Option.some.injEq, Prod.mk.injEq] at H
    obtain ⟨rfl, rfl⟩ := H
    go_wp2
    go_ret2
    exact ⟨by first | rfl | (simp [errW_none, errW_some] <;> rfl) | (simp [*, errW_none, errW_some] <;> rfl), bel_⟩
   case p5_ | n5_ | n4_ =>
    have H' := ak_ H
    clear H
    have p296 : 0 ≤ (x14_1 : Int) := of_decide_eq_true (by first | (with_reducible assumption) | assumption)
    have q296 : x14_1 < (l0.length : Int) := of_decide_eq_true (by first | (with_reducible assumption) | assumption)
    obtain ⟨ad296, e296, hx296_0, hx296_1⟩ := at_T56 HR0.out x14_1 p296 q296
    cases e296
    replace hx296_0 := (HB.out.cell (World.block_lt_of_cell? w _ hx296_0)).trans hx296_0
    replace hx296_1 := (HB.out.cell (World.block_lt_of_cell? w _ hx296_1)).trans hx296_1
    replace p296 := eq_true p296
    replace q296 := eq_true q296
    go_wp2_with (first | ((with_reducible refine gate_dst (N := 9) rfl ?_); refine bx_ (N := 9) (cs := #[.string (⟨#[]⟩ : ByteArray), .string (⟨#[]⟩ : ByteArray)]) (t := 56) ?_; intro gb297 hg w901 hbox hb; have BK297 := ak_ (hbox); have GW297 := ge_ hg; have GE297 := ge_ hg; replace HB := hb_ hb; clear hb hbox hg; obtain ⟨hcz902_0, hcz902_1⟩ := cl2_ BK297; obtain ⟨hfz902_0, hfz902_1⟩ := fz2_ BK297) | ((with_reducible refine gate_callee (f := 26) rfl ?_); refine gl_ (some 21) Tryz.func26 #[.string ((rd_T56 l0 x14_1).f0)] ?_; (with_reducible refine (cambiumref12_Parse.calls k1 ((rd_T56 l0 x14_1).f0) t298 t299 t300 t301 t302 _ A6.out).mono ?_); rintro e w903 ⟨rfl, hb⟩; refine ⟨_, rfl, ?_⟩; replace BK297 := ak_ (blk_below (g := gb297) (o := .cells #[.string ((rd_T56 l0 x14_1).f0), .string ((rd_T56 l0 x14_1).f1)] 56 (0, 0)) (bs_) hb); replace HB := hb_ hb; (try clear hb)) | ((with_reducible refine gate_dst (N := 10) rfl ?_); refine bx_ (N := 10) (cs := #[.int .u8 0, .int .u32 0, .string (⟨#[]⟩ : ByteArray), .int .u32 0]) (t := 59) ?_; intro gb303 hg w904 hbox hb; have BK303 := ak_ (hbox); have GW303 := ge_ hg; have GE303 := ge_ hg; have NB297_303 := nl_ BK297 hg; have NB303_297 := ng_ BK297 hg; replace BK297 := kb_ BK297 hb; replace HB := hb_ hb; clear hb hbox hg; have hnb905 := NB303_297.out; have hnc905 := NB297_303.out; obtain ⟨hcz906_0, hcz906_1, hcz906_2, hcz906_3⟩ := cl4_ BK303; obtain ⟨hfz906_0, hfz906_1, hfz906_2, hfz906_3⟩ := fz4_ BK303; obtain ⟨hcz907_0, hcz907_1⟩ := cl2_ BK297; obtain ⟨hfz907_0, hfz907_1⟩ := fz2_ BK297) | (go_at_call 27; (with_reducible refine (cambiumref14_named.calls k1 ((rd_T56 l0 x14_1).f0) ((rd_T56 l0 x14_1).f1) t304 _ A8.out).mono ?_); rintro e w908 ⟨rfl, hb⟩; replace BK297 := ak_ (blk_below (g := gb297) (o := .cells #[.string ((rd_T56 l0 x14_1).f0), .string ((rd_T56 l0 x14_1).f1)] 56 (0, 0)) (bs_) hb); replace BK303 := ak_ (blk_below (g := gb303) (o := .cells #[.int .u8 t298, .int .u32 t299, .string t300, .int .u32 t301] 59 (0, 0)) (bs_) hb); replace HB := hb_ hb; (try clear hb); obtain ⟨hcz909_0, hcz909_1, hcz909_2, hcz909_3⟩ := cl4_ BK303; obtain ⟨hfz909_0, hfz909_1, hfz909_2, hfz909_3⟩ := fz4_ BK303) | (go_at_call 27; (with_reducible refine (cambiumref14_named.calls k1 ((rd_T56 l0 x14_1).f0) ((rd_T56 l0 x14_1).f1) t304 _ A8.out).mono ?_); rintro e w908 ⟨rfl, hb⟩; replace BK297 := ak_ (blk_below (g := gb297) (o := .cells #[.string ((rd_T56 l0 x14_1).f0), .string ((rd_T56 l0 x14_1).f1)] 56 (0, 0)) (bs_) hb); replace BK303 := ak_ (blk_below (g := gb303) (o := .cells #[.int .u8 t298, .int .u32 t299, .string t300, .int .u32 t301] 59 (0, 0)) (bs_) hb); replace HB := hb_ hb; (try clear hb)) | ((with_reducible refine gate_dst (N := 10) rfl ?_); refine bx_ (N := 10) (cs := #[.int .u8 0, .int .u32 0, .string (⟨#[]⟩ : ByteArray), .int .u32 0]) (t := 59) ?_; intro gb303 hg w904 hbox hb; have BK303 := ak_ (hbox); have GW303 := ge_ hg; have GE303 := ge_ hg; have NB297_303 := nl_ BK297 hg; have NB303_297 := ng_ BK297 hg; replace BK297 := kb_ BK297 hb; replace HB := hb_ hb; clear hb hbox hg; have hnb905 := NB303_297.out; have hnc905 := NB297_303.out; obtain ⟨hcz906_0, hcz906_1, hcz906_2, hcz906_3⟩ := cl4_ BK303; obtain ⟨hfz906_0, hfz906_1, hfz906_2, hfz906_3⟩ := fz4_ BK303))
    go_roundg k1
    case measure => have := HK1.out; omega
    case rel => first | (exact ⟨(wrap64 (x6_1 + 1)), (t299), (wrap64 (x14_1 + 1)), (by first | rfl | (simp; done) | (simp [*]; done)), (by first | rfl | (simp; done) | (simp [*]; done)), (by first | rfl | (simp; done) | (simp [*]; done)), H', ⟨by have := HK1.out; omega⟩, ⟨bel_⟩⟩) | (exact ⟨(x6_1), (x7_1), (wrap64 (x14_1 + 1)), (by first | rfl | (simp; done) | (simp [*]; done)), (by first | rfl | (simp; done) | (simp [*]; done)), (by first | rfl | (simp; done) | (simp [*]; done)), H', ⟨by have := HK1.out; omega⟩, ⟨bel_⟩⟩)
mutual
def cambiumref14_Check.j0 : Nat → List (S56) → Bool → Option (Int)
 | 0, _, _ => none
 | k + 1, x0, x30 => if x30 = true then (some 9) else (cambiumref14_Check.l0 k x0 x0 (x0.length : Int) 0)
def cambiumref14_Check.l0 : Nat → List (S56) → List (S56) → Int → Int → Option (Int)
 | 0, _, _, _, _ => none
 | k + 1, x0, x31, x32, x33 => if x33 < x32 then (if 0 ≤ x33 then (if x33 < (x31.length : Int) then ((cambiumref14_one.f k x0 ((rd_T56 x31 x33).f0) ((rd_T56 x31 x33).f1)).bind fun t315 => (if t315 = true then (cambiumref14_Check.l0 k x0 x31 x32 (wrap64 (x33 + 1))) else (some 9))) else (none)) else (none)) else (cambiumref14_Check.l1 k x0 x0 (x0.length : Int) 0)
def cambiumref14_Check.l1 : Nat → List (S56) → List (S56) → Int → Int → Option (Int)
 | 0, _, _, _, _ => none
 | k + 1, x0, x42, x43, x44 => if x44 < x43 then (if 0 ≤ x44 then (if x44 < (x42.length : Int) then ((cambiumref12_Parse.f k ((rd_T56 x42 x44).f0)).bind fun bt318 => (if bt318.1 = 1 then (cambiumref14_Check.j3 k x0 x42 x43 x44 (bt318.2.1 == 1) bt318.1 bt318.2.1 bt318.2.2.1 bt318.2.2.2.1) else (cambiumref14_Check.j3 k x0 x42 x43 x44 true bt318.1 bt318.2.1 bt318.2.2.1 bt318.2.2.2.1))) else (none)) else (none)) else (some 0)
def cambiumref14_Check.j3 : Nat → List (S56) → List (S56) → Int → Int → Bool → Int → Int → ByteArray → Int → Option (Int)
 | 0, _, _, _, _, _, _, _, _, _ => none
 | k + 1, x0, x42, x43, x44, x61, x324000, x324001, x324002, x324003 => if x61 = true then (cambiumref14_Check.l1 k x0 x42 x43 (wrap64 (x44 + 1))) else ((cambiumref14_inode.f k x0 x324001).bind fun bt324 => ((cambiumref14_up.f k x0 x324001).bind fun bt331 => (if (IntKind.u64.wrap (bt331.1)) = (IntKind.u64.wrap (bt324.2.2.1)) then (cambiumref14_Check.l2 k x0 bt331.2 0 x42 x43 x44 bt324.1 bt324.2.1 bt324.2.2.1 bt324.2.2.2.1 bt324.2.2.2.2.1) else (some 9))))
def cambiumref14_Check.l2 : Nat → List (S56) → Int → Int → List (S56) → Int → Int → Int → Int → Int → Int → ByteArray → Option (Int)
 | 0, _, _, _, _, _, _, _, _, _, _, _ => none
 | k + 1, x0, x14, x15, x42, x43, x44, x331000, x331001, x331002, x331003, x331004 => if x331000 = 1 then (if x14 = 1 then (if x15 > (x0.length : Int) then (some 9) else (cambiumref14_Check.l1 k x0 x42 x43 (wrap64 (x44 + 1)))) else (if x15 ≤ (x0.length : Int) then ((cambiumref14_up.f k x0 x14).bind fun bt333 => (cambiumref14_Check.l2 k x0 bt333.2 (wrap64 (x15 + 1)) x42 x43 x44 x331000 x331001 x331002 x331003 x331004)) else (if x15 > (x0.length : Int) then (some 9) else (cambiumref14_Check.l1 k x0 x42 x43 (wrap64 (x44 + 1)))))) else (if x15 > (x0.length : Int) then (some 9) else (cambiumref14_Check.l1 k x0 x42 x43 (wrap64 (x44 + 1))))
end
def cambiumref14_Check.f (k : Nat) (l0 : List (S56)) : Option (Int) := (cambiumref04_Check.f k l0).bind fun t305 => (if t305 = 0 then ((cambiumref14_inode.f k l0 1).bind fun bt306 => (if bt306.2.2.2.2.2 = true then (cambiumref14_Check.j0 k l0 (bt306.1 != 1)) else (cambiumref14_Check.j0 k l0 true))) else (some 9))
theorem cambiumref14_Check.mono_l : ∀ k, (∀ y0 y1, LeO (cambiumref14_Check.j0 k y0 y1) (cambiumref14_Check.j0 (k + 1) y0 y1)) ∧ (∀ y0 y1 y2 y3, LeO (cambiumref14_Check.l0 k y0 y1 y2 y3) (cambiumref14_Check.l0 (k + 1) y0 y1 y2 y3)) ∧ (∀ y0 y1 y2 y3, LeO (cambiumref14_Check.l1 k y0 y1 y2 y3) (cambiumref14_Check.l1 (k + 1) y0 y1 y2 y3)) ∧ (∀ y0 y1 y2 y3 y4 y5 y6 y7 y8, LeO (cambiumref14_Check.j3 k y0 y1 y2 y3 y4 y5 y6 y7 y8) (cambiumref14_Check.j3 (k + 1) y0 y1 y2 y3 y4 y5 y6 y7 y8)) ∧ (∀ y0 y1 y2 y3 y4 y5 y6 y7 y8 y9 y10, LeO (cambiumref14_Check.l2 k y0 y1 y2 y3 y4 y5 y6 y7 y8 y9 y10) (cambiumref14_Check.l2 (k + 1) y0 y1 y2 y3 y4 y5 y6 y7 y8 y9 y10))
 | 0 => by
  refine ⟨?_, ?_, ?_, ?_, ?_⟩ <;> (intros; intro r h; simp [cambiumref14_Check.j0, cambiumref14_Check.l0, cambiumref14_Check.l1, cambiumref14_Check.j3, cambiumref14_Check.l2] at h)
 | k + 1 => by
  obtain ⟨ih0, ih1, ih2, ih3, ih4⟩ := cambiumref14_Check.mono_l k
  refine ⟨?_, ?_, ?_, ?_, ?_⟩ <;> (intros; (first | unfold cambiumref14_Check.j0 | unfold cambiumref14_Check.l0 | unfold cambiumref14_Check.l1 | unfold cambiumref14_Check.j3 | unfold cambiumref14_Check.l2); repeat' (first | (with_reducible first | exact ih0 _ _ | exact ih1 _ _ _ _ | exact ih2 _ _ _ _ | exact ih3 _ _ _ _ _ _ _ _ _ | exact ih4 _ _ _ _ _ _ _ _ _ _ _ | exact cambiumref04_Check.mono _ _ | exact cambiumref12_Parse.mono _ _ | exact cambiumref14_inode.mono _ _ _ | exact cambiumref14_one.mono _ _ _ _ | exact cambiumref14_up.mono _ _ _ | exact LeO.refl _ | exact LeO.none _ | refine LeO.ite ?_ ?_ | refine LeO.bind ?_ (fun _ => ?_))))
theorem cambiumref14_Check.mono : ∀ a0 k, LeO (cambiumref14_Check.f k a0) (cambiumref14_Check.f (k + 1) a0) := by
 intro a0 k
 obtain ⟨ih0, ih1, ih2, ih3, ih4⟩ := cambiumref14_Check.mono_l k
 unfold cambiumref14_Check.f
 repeat' (first | (with_reducible first | exact ih0 _ _ | exact ih1 _ _ _ _ | exact ih2 _ _ _ _ | exact ih3 _ _ _ _ _ _ _ _ _ | exact ih4 _ _ _ _ _ _ _ _ _ _ _ | exact cambiumref04_Check.mono _ _ | exact cambiumref12_Parse.mono _ _ | exact cambiumref14_inode.mono _ _ _ | exact cambiumref14_one.mono _ _ _ _ | exact cambiumref14_up.mono _ _ _ | exact LeO.refl _ | exact LeO.none _ | refine LeO.ite ?_ ?_ | refine LeO.bind ?_ (fun _ => ?_)))
set_option maxHeartbeats 64000000 in
set_option maxRecDepth 100000 in
theorem cambiumref14_Check.calls (k : Nat) (A0 : Option Addr) (c0 : Nat) (l0 : List (S56)) (r : Int) (w : World) (hr0 : Kd.C k56 w A0 l0.length l0) (hc0 : l0.length ≤ c0) (h : cambiumref14_Check.f k l0 = some r) :
  Calls Tryz.prog 14 #[.slice A0 l0.length c0] w fun e w' => e = .returned (.int .i64 r) ∧ Below w.heap.size w w' := by
 have hu31 := Tryz.underlying31
 have hu56 := Tryz.underlying56
 have hu59 := Tryz.underlying59
 have HR0 := ak_ hr0
 have HC0 := ak_ hc0
 clear hr0 hc0
 have HB := ak_ (Below.refl w.heap.size w)
 have H : ((cambiumref04_Check.f k l0).bind fun t305 => (if t305 = 0 then ((cambiumref14_inode.f k l0 1).bind fun bt306 => (if bt306.2.2.2.2.2 = true then (cambiumref14_Check.j0 k l0 (bt306.1 != 1)) else (cambiumref14_Check.j0 k l0 true))) else (some 9))) = some r := h
 clear h
 replace H := Option.bind_eq_some_iff.mp H
 obtain ⟨t305, A20, H⟩ := H
 try dsimp only at H
 have A2 := ak_ A20
 clear A20
 by_cases c3 : t305 = 0
 ·rw [if_pos c3] at H
  have c3b0 : (t305 == 0) = true := beq_iff_eq.mpr c3
  have c3b1 : (t305 != 0) = false := bne_eq_false_iff_eq.mpr c3
  clear c3
  replace H := Option.bind_eq_some_iff.mp H
  obtain ⟨⟨t306, t307, t308, t309, t310, t311⟩, A40, H⟩ := H
  try dsimp only at H
  have A4 := ak_ A40
  clear A40
  have HC5 := ak_ H
  clear H
  go_enter Tryz.func14, Tryz.ntmps14
  go_upto_region 4 with (first | ((with_reducible refine gate_callee (f := 29) rfl ?_); refine gl_ (some 17) Tryz.func29 #[.slice A0 l0.length c0] ?_; (with_reducible refine (cambiumref04_Check.calls k _ _ l0 t305 _ ?side1 ?side2 A2.out).mono ?_); (case side1 => repeat (first | exact HR0.out | (with_reducible refine Kd.C_alloc ?_ _) | (with_reducible refine Kd.C_drewN ?_ _) | (with_reducible refine Kd.C_drew ?_))); (case side2 => exact HC0.out); rintro e w6 ⟨rfl, hb⟩; refine ⟨_, rfl, ?_⟩; have n0_ := ak_ (below_step bel_ hb); clear HB; have HB := n0_; clear n0_; (try clear hb)) | ((with_reducible refine gate_callee (f := 21) rfl ?_); refine gl_ (some 21) Tryz.func21 #[.slice A0 l0.length c0, .int .u32 1] ?_; (with_reducible refine (cambiumref14_inode.calls k _ _ l0 1 t306 t307 t308 t309 t310 t311 _ ?side1 ?side2 A4.out).mono ?_); (case side1 => exact cb_ HR0); (case side2 => exact HC0.out); rintro e w7 ⟨rfl, hb⟩; refine ⟨_, rfl, ?_⟩; have n0_ := ak_ (below_step bel_ hb); clear HB; have HB := n0_; clear n0_; (try clear hb)) | ((with_reducible refine gate_dst (N := 3) rfl ?_); (try (refine gate_guard (by rfl) ?_; dsimp only)); refine bx_ (N := 3) (cs := #[.int .u8 0, .int .u16 0, .int .u32 0, .int .u32 0, .string (⟨#[]⟩ : ByteArray)]) (t := 31) ?_; intro gb312 hg w8 hbox hb; have n0_ := ak_ (below_step bel_ hb); have n1_ := ak_ (hbox); have n2_ := ak_ ((by rw [hg]; exact (below_size bel_) : w.heap.size ≤ gb312)); have n3_ := ak_ ((by rw [hg]; exact (below_size bel_) : w.heap.size ≤ gb312)); clear HB; have HB := n0_; have BK312 := n1_; have GW312 := n2_; have GE312 := n3_; clear n0_ n1_ n2_ n3_; clear hb hbox hg; have hcz9_0 : w8.cell? ⟨gb312, 0, none⟩ = some (.int .u8 0) := (blk_cell BK312.out 0).trans rfl; have hcz9_1 : w8.cell? ⟨gb312, 1, none⟩ = some (.int .u16 0) := (blk_cell BK312.out 1).trans rfl; have hcz9_2 : w8.cell? ⟨gb312, 2, none⟩ = some (.int .u32 0) := (blk_cell BK312.out 2).trans rfl; have hcz9_3 : w8.cell? ⟨gb312, 3, none⟩ = some (.int .u32 0) := (blk_cell BK312.out 3).trans rfl; have hcz9_4 : w8.cell? ⟨gb312, 4, none⟩ = some (.string (⟨#[]⟩ : ByteArray)) := (blk_cell BK312.out 4).trans rfl; have hfz9_0 := blk_frozen BK312.out 0; have hfz9_1 := blk_frozen BK312.out 1; have hfz9_2 := blk_frozen BK312.out 2; have hfz9_3 := blk_frozen BK312.out 3; have hfz9_4 := blk_frozen BK312.out 4))
  (try simp only [Act.put, List.setIfInBounds_toArray, List.set_cons_zero, List.set_cons_succ])
  go_cut [30] (fun v30 wc => ∃ (kq : Nat) (x30_4 : Bool), v30 = .bool x30_4 ∧ Aside0 (cambiumref14_Check.j0 kq l0 x30_4 = some r) ∧ Aside0 (kq ≤ k) ∧ Aside0 (wc.heap[gb312]? = some (.cells #[.int .u8 t306, .int .u16 t307, .int .u32 t308, .int .u32 t309, .string t310] 31 (0, 0))) ∧ Aside0 (Below w.heap.size w wc))
  case first =>
   have H := HC5.out
   clear HC5
   by_cases c10 : t311 = true
   ·subst c10
    rw [if_pos rfl] at H
    have H' := ak_ H
    clear H
    obtain ⟨hcz11_0, hcz11_1, hcz11_2, hcz11_3, hcz11_4⟩ := cl5_ BK312
    obtain ⟨hfz11_0, hfz11_1, hfz11_2, hfz11_3, hfz11_4⟩ := fz5_ BK312
    go_wp2
    go_meet
    case rel => exact ⟨_, ((t306 != 1)), rfl, H', ⟨by first | omega | exact Nat.le_refl _⟩, ⟨bs_⟩, ⟨bel_⟩⟩
   replace c10 := Bool.eq_false_iff.mpr c10
   subst c10
   rw [if_neg (show ¬ (false = true) by decide)] at H
   have H' := ak_ H
   clear H
   go_wp2
   go_meet
   case rel => exact ⟨_, (true), rfl, H', ⟨by first | omega | exact Nat.le_refl _⟩, ⟨bs_⟩, ⟨bel_⟩⟩
  case rest =>
   clear HC5
   obtain ⟨kq, x30_4, rfl, HA, HJ4, BK312, HB⟩ := hcut
   cases kq with
   | zero => exact absurd HA.out (by simp [cambiumref14_Check.j0])
   | succ kj4 =>
    have H := HA.out
    clear HA
    simp only [cambiumref14_Check.j0] at H
    by_cases c12 : x30_4 = true
    ·subst c12
     rw [if_pos rfl] at H
     obtain rfl := Option.some.inj H
     go_wp2
     go_ret
     exact ⟨rfl, bel_⟩
    replace c12 := Bool.eq_false_iff.mpr c12
    subst c12
    rw [if_neg (show ¬ (false = true) by decide)] at H
    have H' := ak_ H
    clear H
    go_wp2
    go_loopg [33] kj4 (fun kq v33 w' => ∃ (x33_2 : Int), v33 = .int .i64 x33_2 ∧ Aside0 (cambiumref14_Check.l0 kq l0 l0 (l0.length : Int) x33_2 = some r) ∧ Aside0 (kq ≤ kj4) ∧ Aside0 (w'.heap[gb312]? = some (.cells #[.int .u8 t306, .int .u16 t307, .int .u32 t308, .int .u32 t309, .string t310] 31 (0, 0))) ∧ Aside0 (Below w.heap.size w w'))
    case atStart => exact ⟨(0), rfl, H', ⟨Nat.le_refl _⟩, ⟨bk_ BK312⟩, ⟨bel_⟩⟩
    case round =>
     clear H'
     obtain ⟨x33_2, rfl, HA, HK2, BK312, HB⟩ := hrel
     cases gk with
     | zero => exact absurd HA.out (by simp [cambiumref14_Check.l0])
     | succ k2 =>
      have H := HA.out
      clear HA
      simp only [cambiumref14_Check.l0] at H
      by_cases c13 : x33_2 < (l0.length : Int)
      ·rw [if_pos c13] at H
       have c13b0 : decide (x33_2 < (l0.length : Int)) = true := decide_eq_true c13
       clear c13
       by_cases c14 : 0 ≤ x33_2
       ·rw [if_pos c14] at H
        have c14b0 : decide (0 ≤ x33_2) = true := decide_eq_true c14
        clear c14
        by_cases c15 : x33_2 < (l0.length : Int)
        ·rw [if_pos c15] at H
         have c15b0 : decide (x33_2 < (l0.length : Int)) = true := decide_eq_true c15
         clear c15
         replace H := Option.bind_eq_some_iff.mp H
         obtain ⟨t315, A160, H⟩ := H
         try dsimp only at H
         have A16 := ak_ A160
         clear A160
         by_cases c17 : t315 = true
         ·subst c17
          rw [if_pos rfl] at H
          have H' := ak_ H
          clear H
          have p313 : 0 ≤ (x33_2 : Int) := of_decide_eq_true (by first | (with_reducible assumption) | assumption)
          have q313 : x33_2 < (l0.length : Int) := of_decide_eq_true (by first | (with_reducible assumption) | assumption)
          obtain ⟨ad313, e313, hx313_0, hx313_1⟩ := at_T56 HR0.out x33_2 p313 q313
          cases e313
          replace hx313_0 := (HB.out.cell (World.block_lt_of_cell? w _ hx313_0)).trans hx313_0
          replace hx313_1 := (HB.out.cell (World.block_lt_of_cell? w _ hx313_1)).trans hx313_1
          replace p313 := eq_true p313
          replace q313 := eq_true q313
          go_wp2_with (first | ((with_reducible refine gate_dst (N := 6) rfl ?_); (try (refine gate_guard (by rfl) ?_; dsimp only)); refine bx_ (N := 6) (cs := #[.string (⟨#[]⟩ : ByteArray), .string (⟨#[]⟩ : ByteArray)]) (t := 56) ?_; intro gb314 hg w18 hbox hb; have BK314 := ak_ (hbox); have GW314 := ge_ hg; have GE314 := ge_ hg; have NB312_314 := nl_ BK312 hg; have NB314_312 := ng_ BK312 hg; replace BK312 := kb_ BK312 hb; replace HB := hb_ hb; clear hb hbox hg; have hnb19 := NB314_312.out; have hnc19 := NB312_314.out; obtain ⟨hcz20_0, hcz20_1⟩ := cl2_ BK314; obtain ⟨hfz20_0, hfz20_1⟩ := fz2_ BK314) | ((with_reducible refine gate_callee (f := 30) rfl ?_); refine gl_ (some 39) Tryz.func30 #[.slice (some ad313) l0.length c0, .agg #[.string ((rd_T56 l0 x33_2).f0), .string ((rd_T56 l0 x33_2).f1)]] ?_; (with_reducible refine (cambiumref14_one.calls k2 _ _ l0 ((rd_T56 l0 x33_2).f0) ((rd_T56 l0 x33_2).f1) true _ ?side1 ?side2 A16.out).mono ?_); (case side1 => exact Kd.C_below HR0.out bel_); (case side2 => exact HC0.out); rintro e w21 ⟨rfl, hb⟩; refine ⟨_, rfl, ?_⟩; replace BK312 := ak_ (blk_below (g := gb312) (o := .cells #[.int .u8 t306, .int .u16 t307, .int .u32 t308, .int .u32 t309, .string t310] 31 (0, 0)) (bs_) hb); replace BK314 := ak_ (blk_below (g := gb314) (o := .cells #[.string ((rd_T56 l0 x33_2).f0), .string ((rd_T56 l0 x33_2).f1)] 56 (0, 0)) (bs_) hb); replace HB := hb_ hb; (try clear hb)))
          go_roundg k2
          case measure => have := HJ4.out; have := HK2.out; omega
          case rel => exact ⟨(wrap64 (x33_2 + 1)), rfl, H', ⟨by have := HJ4.out; have := HK2.out; omega⟩, ⟨bk_ BK312⟩, ⟨bel_⟩⟩
         replace c17 := Bool.eq_false_iff.mpr c17
         subst c17
         rw [if_neg (show ¬ (false = true) by decide)] at H
         obtain rfl := Option.some.inj H
         have p313 : 0 ≤ (x33_2 : Int) := of_decide_eq_true (by first | (with_reducible assumption) | assumption)
         have q313 : x33_2 < (l0.length : Int) := of_decide_eq_true (by first | (with_reducible assumption) | assumption)
         obtain ⟨ad313, e313, hx313_0, hx313_1⟩ := at_T56 HR0.out x33_2 p313 q313
         cases e313
         replace hx313_0 := (HB.out.cell (World.block_lt_of_cell? w _ hx313_0)).trans hx313_0
         replace hx313_1 := (HB.out.cell (World.block_lt_of_cell? w _ hx313_1)).trans hx313_1
         replace p313 := eq_true p313
         replace q313 := eq_true q313
         go_wp2_with (first | ((with_reducible refine gate_dst (N := 6) rfl ?_); (try (refine gate_guard (by rfl) ?_; dsimp only)); refine bx_ (N := 6) (cs := #[.string (⟨#[]⟩ : ByteArray), .string (⟨#[]⟩ : ByteArray)]) (t := 56) ?_; intro gb314 hg w22 hbox hb; have BK314 := ak_ (hbox); have GW314 := ge_ hg; have GE314 := ge_ hg; have NB312_314 := nl_ BK312 hg; have NB314_312 := ng_ BK312 hg; replace BK312 := kb_ BK312 hb; replace HB := hb_ hb; clear hb hbox hg; have hnb23 := NB314_312.out; have hnc23 := NB312_314.out; obtain ⟨hcz24_0, hcz24_1⟩ := cl2_ BK314; obtain ⟨hfz24_0, hfz24_1⟩ := fz2_ BK314) | ((with_reducible refine gate_callee (f := 30) rfl ?_); refine gl_ (some 39) Tryz.func30 #[.slice (some ad313) l0.length c0, .agg #[.string ((rd_T56 l0 x33_2).f0), .string ((rd_T56 l0 x33_2).f1)]] ?_; (with_reducible refine (cambiumref14_one.calls k2 _ _ l0 ((rd_T56 l0 x33_2).f0) ((rd_T56 l0 x33_2).f1) false _ ?side1 ?side2 A16.out).mono ?_); (case side1 => exact Kd.C_below HR0.out bel_); (case side2 => exact HC0.out); rintro e w25 ⟨rfl, hb⟩; refine ⟨_, rfl, ?_⟩; replace BK312 := ak_ (blk_below (g := gb312) (o := .cells #[.int .u8 t306, .int .u16 t307, .int .u32 t308, .int .u32 t309, .string t310] 31 (0, 0)) (bs_) hb); replace BK314 := ak_ (blk_below (g := gb314) (o := .cells #[.string ((rd_T56 l0 x33_2).f0), .string ((rd_T56 l0 x33_2).f1)] 56 (0, 0)) (bs_) hb); replace HB := hb_ hb; (try clear hb)))
         go_ret
         exact ⟨rfl, bel_⟩
        rw [if_neg c15] at H
        exact absurd H (by simp)
       rw [if_neg c14] at H
       exact absurd H (by simp)
      rw [if_neg c13] at H
      have c13b0 : decide (x33_2 < (l0.length : Int)) = false := decide_eq_false c13
      clear c13
      have H' := ak_ H
      clear H
      go_wp2
      go_loopg [44] k2 (fun kq v44 w' => ∃ (x44_3 : Int), v44 = .int .i64 x44_3 ∧ Aside0 (cambiumref14_Check.l1 kq l0 l0 (l0.length : Int) x44_3 = some r) ∧ Aside0 (kq ≤ k2) ∧ Aside0 (w'.heap[gb312]? = some (.cells #[.int .u8 t306, .int .u16 t307, .int .u32 t308, .int .u32 t309, .string t310] 31 (0, 0))) ∧ Aside0 (Below w.heap.size w w'))
      case atStart => exact ⟨(0), rfl, H', ⟨Nat.le_refl _⟩, ⟨bk_ BK312⟩, ⟨bel_⟩⟩
      case round =>
       clear H'
       obtain ⟨x44_3, rfl, HA, HK3, BK312, HB⟩ := hrel
       cases gk with
       | zero => exact absurd HA.out (by simp [cambiumref14_Check.l1])
       | succ k3 =>
        have H := HA.out
        clear HA
        simp only [cambiumref14_Check.l1] at H
        by_cases c26 : x44_3 < (l0.length : Int)
        ·rw [if_pos c26] at H
         have c26b0 : decide (x44_3 < (l0.length : Int)) = true := decide_eq_true c26
         clear c26
         by_cases c27 : 0 ≤ x44_3
         ·rw [if_pos c27] at H
          have c27b0 : decide (0 ≤ x44_3) = true := decide_eq_true c27
          clear c27
          by_cases c28 : x44_3 < (l0.length : Int)
          ·rw [if_pos c28] at H
           have c28b0 : decide (x44_3 < (l0.length : Int)) = true := decide_eq_true c28
           clear c28
           replace H := Option.bind_eq_some_iff.mp H
           obtain ⟨⟨t318, t319, t320, t321, t322⟩, A290, H⟩ := H
           try dsimp only at H
           have A29 := ak_ A290
           clear A290
           have HC30 := ak_ H
           clear H
           have p316 : 0 ≤ (x44_3 : Int) := of_decide_eq_true (by first | (with_reducible assumption) | assumption)
           have q316 : x44_3 < (l0.length : Int) := of_decide_eq_true (by first | (with_reducible assumption) | assumption)
           obtain ⟨ad316, e316, hx316_0, hx316_1⟩ := at_T56 HR0.out x44_3 p316 q316
           cases e316
           replace hx316_0 := (HB.out.cell (World.block_lt_of_cell? w _ hx316_0)).trans hx316_0
           replace hx316_1 := (HB.out.cell (World.block_lt_of_cell? w _ hx316_1)).trans hx316_1
           replace p316 := eq_true p316
           replace q316 := eq_true q316
           go_upto_region 16 with (first | ((with_reducible refine gate_dst (N := 8) rfl ?_); (try (refine gate_guard (by rfl) ?_; dsimp only)); refine bx_ (N := 8) (cs := #[.string (⟨#[]⟩ : ByteArray), .string (⟨#[]⟩ : ByteArray)]) (t := 56) ?_; intro gb317 hg w31 hbox hb; have n0_ := ak_ (blk_below (bk_ BK312) hb); have n1_ := ak_ (below_step bel_ hb); have n2_ := ak_ (hbox); have n3_ := ak_ ((by rw [hg]; exact (below_size bel_) : w.heap.size ≤ gb317)); have n4_ := ak_ ((by rw [hg]; exact (below_size bel_) : w.heap.size ≤ gb317)); have n5_ := ak_ ((by rw [hg]; exact Nat.ne_of_lt (blk_lt (bk_ BK312)) : gb312 ≠ gb317)); have n6_ := ak_ ((by rw [hg]; exact Nat.ne_of_gt (blk_lt (bk_ BK312)) : gb317 ≠ gb312)); clear BK312; clear HB; have BK312 := n0_; have HB := n1_; have BK317 := n2_; have GW317 := n3_; have GE317 := n4_; have NB312_317 := n5_; have NB317_312 := n6_; clear n0_ n1_ n2_ n3_ n4_ n5_ n6_; clear hb hbox hg; have hnb32 := NB317_312.out; have hnc32 := NB312_317.out; have hcz33_0 : w31.cell? ⟨gb317, 0, none⟩ = some (.string (⟨#[]⟩ : ByteArray)) := (blk_cell BK317.out 0).trans rfl; have hcz33_1 : w31.cell? ⟨gb317, 1, none⟩ = some (.string (⟨#[]⟩ : ByteArray)) := (blk_cell BK317.out 1).trans rfl; have hfz33_0 := blk_frozen BK317.out 0; have hfz33_1 := blk_frozen BK317.out 1) | ((with_reducible refine gate_callee (f := 26) rfl ?_); refine gl_ (some 51) Tryz.func26 #[.string ((rd_T56 l0 x44_3).f0)] ?_; (with_reducible refine (cambiumref12_Parse.calls k3 ((rd_T56 l0 x44_3).f0) t318 t319 t320 t321 t322 _ A29.out).mono ?_); rintro e w34 ⟨rfl, hb⟩; refine ⟨_, rfl, ?_⟩; have n0_ := ak_ (blk_below (g := gb312) (o := .cells #[.int .u8 t306, .int .u16 t307, .int .u32 t308, .int .u32 t309, .string t310] 31 (0, 0)) (bs_) hb); have n1_ := ak_ (blk_below (g := gb317) (o := .cells #[.string ((rd_T56 l0 x44_3).f0), .string ((rd_T56 l0 x44_3).f1)] 56 (0, 0)) (bs_) hb); have n2_ := ak_ (below_step bel_ hb); clear BK312; clear BK317; clear HB; have BK312 := n0_; have BK317 := n1_; have HB := n2_; clear n0_ n1_ n2_; (try clear hb)) | ((with_reducible refine gate_dst (N := 9) rfl ?_); (try (refine gate_guard (by rfl) ?_; dsimp only)); refine bx_ (N := 9) (cs := #[.int .u8 0, .int .u32 0, .string (⟨#[]⟩ : ByteArray), .int .u32 0]) (t := 59) ?_; intro gb323 hg w35 hbox hb; have n0_ := ak_ (blk_below (bk_ BK312) hb); have n1_ := ak_ (blk_below (bk_ BK317) hb); have n2_ := ak_ (below_step bel_ hb); have n3_ := ak_ (hbox); have n4_ := ak_ ((by rw [hg]; exact (below_size bel_) : w.heap.size ≤ gb323)); have n5_ := ak_ ((by rw [hg]; exact (below_size bel_) : w.heap.size ≤ gb323)); have n6_ := ak_ ((by rw [hg]; exact Nat.ne_of_lt (blk_lt (bk_ BK312)) : gb312 ≠ gb323)); have n7_ := ak_ ((by rw [hg]; exact Nat.ne_of_gt (blk_lt (bk_ BK312)) : gb323 ≠ gb312)); have n8_ := ak_ ((by rw [hg]; exact Nat.ne_of_lt (blk_lt (bk_ BK317)) : gb317 ≠ gb323)); have n9_ := ak_ ((by rw [hg]; exact Nat.ne_of_gt (blk_lt (bk_ BK317)) : gb323 ≠ gb317)); clear BK312; clear BK317; clear HB; have BK312 := n0_; have BK317 := n1_; have HB := n2_; have BK323 := n3_; have GW323 := n4_; have GE323 := n5_; have NB312_323 := n6_; have NB323_312 := n7_; have NB317_323 := n8_; have NB323_317 := n9_; clear n0_ n1_ n2_ n3_ n4_ n5_ n6_ n7_ n8_ n9_; clear hb hbox hg; have hnb36 := NB323_312.out; have hnc36 := NB312_323.out; have hnb37 := NB323_317.out; have hnc37 := NB317_323.out; have hcz38_0 : w35.cell? ⟨gb323, 0, none⟩ = some (.int .u8 0) := (blk_cell BK323.out 0).trans rfl; have hcz38_1 : w35.cell? ⟨gb323, 1, none⟩ = some (.int .u32 0) := (blk_cell BK323.out 1).trans rfl; have hcz38_2 : w35.cell? ⟨gb323, 2, none⟩ = some (.string (⟨#[]⟩ : ByteArray)) := (blk_cell BK323.out 2).trans rfl; have hcz38_3 : w35.cell? ⟨gb323, 3, none⟩ = some (.int .u32 0) := (blk_cell BK323.out 3).trans rfl; have hfz38_0 := blk_frozen BK323.out 0; have hfz38_1 := blk_frozen BK323.out 1; have hfz38_2 := blk_frozen BK323.out 2; have hfz38_3 := blk_frozen BK323.out 3))
           (try simp only [Act.put, List.setIfInBounds_toArray, List.set_cons_zero, List.set_cons_succ])
           go_cut [61] (fun v61 wc => ∃ (kq : Nat) (x61_29 : Bool), v61 = .bool x61_29 ∧ Aside0 (cambiumref14_Check.j3 kq l0 l0 (l0.length : Int) x44_3 x61_29 t318 t319 t320 t321 = some r) ∧ Aside0 (kq ≤ k3) ∧ Aside0 (wc.heap[gb312]? = some (.cells #[.int .u8 t306, .int .u16 t307, .int .u32 t308, .int .u32 t309, .string t310] 31 (0, 0))) ∧ Aside0 (wc.heap[gb317]? = some (.cells #[.string ((rd_T56 l0 x44_3).f0), .string ((rd_T56 l0 x44_3).f1)] 56 (0, 0))) ∧ Aside0 (wc.heap[gb323]? = some (.cells #[.int .u8 t318, .int .u32 t319, .string t320, .int .u32 t321] 59 (0, 0))) ∧ Aside0 (Below w.heap.size w wc))
           case first =>
            have H := HC30.out
            clear HC30
            refine Or.elim (Classical.em (t318 = 1)) (fun c39 => ?p1_) (fun c39 => ?n1_)
            case' p1_ =>
             rw [if_pos c39] at H
             have c39b0 : (t318 == 1) = true := beq_iff_eq.mpr c39
             have c39b1 : (t318 != 1) = false := bne_eq_false_iff_eq.mpr c39
             clear c39
             (first | rw [c39b0] | (simp only [i64_w, i32_w]; rw [c39b0]) | skip)
             refine ?z1_
            case' n1_ =>
             rw [if_neg c39] at H
             have c39b0 : (t318 == 1) = false := beq_eq_false_iff_ne.mpr c39
             have c39b1 : (t318 != 1) = true := bne_iff_ne.mpr c39
             (first | rw [c39b0] | (simp only [i64_w, i32_w]; rw [c39b0]) | skip)
             refine ?z2_
            case p1_ | n1_ =>
             have H' := ak_ H
             clear H
             have hnb901 := NB323_312.out
             have hnc901 := NB312_323.out
             have hnb902 := NB323_317.out
             have hnc902 := NB317_323.out
             obtain ⟨hcz903_0, hcz903_1, hcz903_2, hcz903_3⟩ := cl4_ BK323
             obtain ⟨hfz903_0, hfz903_1, hfz903_2, hfz903_3⟩ := fz4_ BK323
             go_wp2
             go_meet
             case rel => first | (exact ⟨_, ((t319 == 1)), rfl, H', ⟨by have := HJ4.out; have := HK2.out; have := HK3.out; first | omega | exact Nat.le_refl _⟩, ⟨bs_⟩, ⟨bs_⟩, ⟨bs_⟩, ⟨bel_⟩⟩) | (exact ⟨_, (true), rfl, H', ⟨by have := HJ4.out; have := HK2.out; have := HK3.out; first | omega | exact Nat.le_refl _⟩, ⟨bs_⟩, ⟨bs_⟩, ⟨bs_⟩, ⟨bel_⟩⟩)
           case rest =>
            clear HC30
            obtain ⟨kq, x61_29, rfl, HA, HJ29, BK312, BK317, BK323, HB⟩ := hcut
            cases kq with
            | zero => exact absurd HA.out (by simp [cambiumref14_Check.j3])
            | succ kj29 =>
             have H := HA.out
             clear HA
             simp only [cambiumref14_Check.j3] at H
             by_cases c46 : x61_29 = true
             ·subst c46
              rw [if_pos rfl] at H
              have H' := ak_ H
              clear H
              go_wp2
              go_roundg kj29
              case measure => have := HJ4.out; have := HK2.out; have := HK3.out; have := HJ29.out; omega
              case rel => exact ⟨(wrap64 (x44_3 + 1)), rfl, H', ⟨by have := HJ4.out; have := HK2.out; have := HK3.out; have := HJ29.out; omega⟩, ⟨bk_ BK312⟩, ⟨bel_⟩⟩
             replace c46 := Bool.eq_false_iff.mpr c46
             subst c46
             rw [if_neg (show ¬ (false = true) by decide)] at H
             replace H := Option.bind_eq_some_iff.mp H
             obtain ⟨⟨t324, t325, t326, t327, t328, t329⟩, A470, H⟩ := H
             try dsimp only at H
             have A47 := ak_ A470
             clear A470
             replace H := Option.bind_eq_some_iff.mp H
             obtain ⟨⟨t331, t332⟩, A480, H⟩ := H
             try dsimp only at H
             have A48 := ak_ A480
             clear A480
             by_cases c49 : (IntKind.u64.wrap (t331)) = (IntKind.u64.wrap (t326))
             ·rw [if_pos c49] at H
              have c49b0 : ((IntKind.u64.wrap (t331)) == (IntKind.u64.wrap (t326))) = true := beq_iff_eq.mpr c49
              have c49b1 : ((IntKind.u64.wrap (t331)) != (IntKind.u64.wrap (t326))) = false := bne_eq_false_iff_eq.mpr c49
              clear c49
              have H' := ak_ H
              clear H
              have hnb50 := NB323_312.out
              have hnc50 := NB312_323.out
              have hnb51 := NB323_317.out
              have hnc51 := NB317_323.out
              obtain ⟨hcz52_0, hcz52_1, hcz52_2, hcz52_3⟩ := cl4_ BK323
              obtain ⟨hfz52_0, hfz52_1, hfz52_2, hfz52_3⟩ := fz4_ BK323
              go_wp2_with (first | ((with_reducible refine gate_callee (f := 21) rfl ?_); refine gl_ (some 66) Tryz.func21 #[.slice (some ad316) l0.length c0, .int .u32 t319] ?_; (with_reducible refine (cambiumref14_inode.calls kj29 _ _ l0 t319 t324 t325 t326 t327 t328 t329 _ ?side1 ?side2 A47.out).mono ?_); (case side1 => exact cb_ HR0); (case side2 => exact HC0.out); rintro e w53 ⟨rfl, hb⟩; refine ⟨_, rfl, ?_⟩; replace BK312 := kb_ BK312 hb; replace BK317 := kb_ BK317 hb; replace BK323 := kb_ BK323 hb; replace HB := hb_ hb; (try clear hb)) | ((with_reducible refine gate_dst (N := 11) rfl ?_); (try (refine gate_guard (by rfl) ?_; dsimp only)); refine bx_ (N := 11) (cs := #[.int .u8 0, .int .u16 0, .int .u32 0, .int .u32 0, .string (⟨#[]⟩ : ByteArray)]) (t := 31) ?_; intro gb330 hg w54 hbox hb; have BK330 := ak_ (hbox); have GW330 := ge_ hg; have GE330 := ge_ hg; have NB312_330 := nl_ BK312 hg; have NB330_312 := ng_ BK312 hg; have NB317_330 := nl_ BK317 hg; have NB330_317 := ng_ BK317 hg; have NB323_330 := nl_ BK323 hg; have NB330_323 := ng_ BK323 hg; replace BK312 := kb_ BK312 hb; replace BK317 := kb_ BK317 hb; replace BK323 := kb_ BK323 hb; replace HB := hb_ hb; clear hb hbox hg; have hnb55 := NB330_312.out; have hnc55 := NB312_330.out; have hnb56 := NB330_317.out; have hnc56 := NB317_330.out; have hnb57 := NB330_323.out; have hnc57 := NB323_330.out; obtain ⟨hcz58_0, hcz58_1, hcz58_2, hcz58_3, hcz58_4⟩ := cl5_ BK330; obtain ⟨hfz58_0, hfz58_1, hfz58_2, hfz58_3, hfz58_4⟩ := fz5_ BK330; obtain ⟨hcz59_0, hcz59_1, hcz59_2, hcz59_3⟩ := cl4_ BK323; obtain ⟨hfz59_0, hfz59_1, hfz59_2, hfz59_3⟩ := fz4_ BK323) | ((with_reducible refine gate_callee (f := 31) rfl ?_); refine gl_ (some 73) Tryz.func31 #[.slice (some ad316) l0.length c0, .int .u32 t319] ?_; (with_reducible refine (cambiumref14_up.calls kj29 _ _ l0 t319 t331 t332 _ ?side1 ?side2 A48.out).mono ?_); (case side1 => exact Kd.C_below HR0.out bel_); (case side2 => exact HC0.out); rintro e w60 ⟨rfl, hb⟩; refine ⟨_, rfl, ?_⟩; replace BK312 := ak_ (blk_below (g := gb312) (o := .cells #[.int .u8 t306, .int .u16 t307, .int .u32 t308, .int .u32 t309, .string t310] 31 (0, 0)) (bs_) hb); replace BK317 := ak_ (blk_below (g := gb317) (o := .cells #[.string ((rd_T56 l0 x44_3).f0), .string ((rd_T56 l0 x44_3).f1)] 56 (0, 0)) (bs_) hb); replace BK323 := ak_ (blk_below (g := gb323) (o := .cells #[.int .u8 t318, .int .u32 t319, .string t320, .int .u32 t321] 59 (0, 0)) (bs_) hb); replace BK330 := ak_ (blk_below (g := gb330) (o := .cells #[.int .u8 t324, .int .u16 t325, .int .u32 t326, .int .u32 t327, .string t328] 31 (0, 0)) (bs_) hb); replace HB := hb_ hb; (try clear hb); obtain ⟨hcz61_0, hcz61_1, hcz61_2, hcz61_3, hcz61_4⟩ := cl5_ BK330; obtain ⟨hfz61_0, hfz61_1, hfz61_2, hfz61_3, hfz61_4⟩ := fz5_ BK330))
              go_loopg [14, 15] kj29 (fun kq v14 v15 w' => ∃ (x14_5 : Int) (x15_5 : Int), v14 = .int .u32 x14_5 ∧ v15 = .int .i64 x15_5 ∧ Aside0 (cambiumref14_Check.l2 kq l0 x14_5 x15_5 l0 (l0.length : Int) x44_3 t324 t325 t326 t327 t328 = some r) ∧ Aside0 (kq ≤ kj29) ∧ Aside0 (w'.heap[gb312]? = some (.cells #[.int .u8 t306, .int .u16 t307, .int .u32 t308, .int .u32 t309, .string t310] 31 (0, 0))) ∧ Aside0 (w'.heap[gb317]? = some (.cells #[.string ((rd_T56 l0 x44_3).f0), .string ((rd_T56 l0 x44_3).f1)] 56 (0, 0))) ∧ Aside0 (w'.heap[gb323]? = some (.cells #[.int .u8 t318, .int .u32 t319, .string t320, .int .u32 t321] 59 (0, 0))) ∧ Aside0 (w'.heap[gb330]? = some (.cells #[.int .u8 t324, .int .u16 t325, .int .u32 t326, .int .u32 t327, .string t328] 31 (0, 0))) ∧ Aside0 (Below w.heap.size w w'))
              case atStart => exact ⟨(t332), (0), rfl, rfl, H', ⟨Nat.le_refl _⟩, ⟨bk_ BK312⟩, ⟨bk_ BK317⟩, ⟨bk_ BK323⟩, ⟨bk_ BK330⟩, ⟨bel_⟩⟩
              case round =>
               clear H'
               obtain ⟨x14_5, x15_5, rfl, rfl, HA, HK5, BK312, BK317, BK323, BK330, HB⟩ := hrel
               cases gk with
               | zero => exact absurd HA.out (by simp [cambiumref14_Check.l2])
               | succ k5 =>
                have H := HA.out
                clear HA
                simp only [cambiumref14_Check.l2] at H
                refine Or.elim (Classical.em (t324 = 1)) (fun c62 => ?p2_) (fun c62 => ?n2_)
                case' p2_ =>
                 rw [if_pos c62] at H
                 have c62b0 : (t324 == 1) = true := beq_iff_eq.mpr c62
                 have c62b1 : (t324 != 1) = false := bne_eq_false_iff_eq.mpr c62
                 clear c62
                 refine Or.elim (Classical.em (x14_5 = 1)) (fun c63 => ?p3_) (fun c63 => ?n3_)
                 case' p3_ =>
                  rw [if_pos c63] at H
                  have c63b0 : (x14_5 == 1) = true := beq_iff_eq.mpr c63
                  have c63b1 : (x14_5 != 1) = false := bne_eq_false_iff_eq.mpr c63
                  clear c63
                  refine Or.elim (Classical.em (x15_5 > (l0.length : Int))) (fun c64 => ?p4_) (fun c64 => ?n4_)
                  case' p4_ =>
                   rw [if_pos c64] at H
                   have c64b0 : decide ((l0.length : Int) < x15_5) = true := decide_eq_true c64
                   clear c64
                   obtain rfl := Option.some.inj H
                   have hnb65 := NB330_312.out
                   have hnc65 := NB312_330.out
                   have hnb66 := NB330_317.out
                   have hnc66 := NB317_330.out
                   have hnb67 := NB330_323.out
                   have hnc67 := NB323_330.out
                   obtain ⟨hcz68_0, hcz68_1, hcz68_2, hcz68_3, hcz68_4⟩ := cl5_ BK330
                   obtain ⟨hfz68_0, hfz68_1, hfz68_2, hfz68_3, hfz68_4⟩ := fz5_ BK330
                   refine ?z3_
                  case' n4_ =>
                   rw [if_neg c64] at H
                   have c64b0 : decide ((l0.length : Int) < x15_5) = false := decide_eq_false c64
                   clear c64
                   refine ?z6_
                 case' n3_ =>
                  rw [if_neg c63] at H
                  have c63b0 : (x14_5 == 1) = false := beq_eq_false_iff_ne.mpr c63
                  have c63b1 : (x14_5 != 1) = true := bne_iff_ne.mpr c63
                  refine Or.elim (Classical.em (x15_5 ≤ (l0.length : Int))) (fun c73 => ?p5_) (fun c73 => ?n5_)
                  case p5_ =>
                   rw [if_pos c73] at H
                   have c73b0 : decide (x15_5 ≤ (l0.length : Int)) = true := decide_eq_true c73
                   clear c73
                   replace H := Option.bind_eq_some_iff.mp H
                   obtain ⟨⟨t333, t334⟩, A740, H⟩ := H
                   try dsimp only at H
                   have A74 := ak_ A740
                   clear A740
                   have H' := ak_ H
                   clear H
                   have hnb75 := NB330_312.out
                   have hnc75 := NB312_330.out
                   have hnb76 := NB330_317.out
                   have hnc76 := NB317_330.out
                   have hnb77 := NB330_323.out
                   have hnc77 := NB323_330.out
                   obtain ⟨hcz78_0, hcz78_1, hcz78_2, hcz78_3, hcz78_4⟩ := cl5_ BK330
                   obtain ⟨hfz78_0, hfz78_1, hfz78_2, hfz78_3, hfz78_4⟩ := fz5_ BK330
                   go_wp2_with (first | ((with_reducible refine gate_callee (f := 31) rfl ?_); refine gl_ (some 98) Tryz.func31 #[.slice (some ad316) l0.length c0, .int .u32 x14_5] ?_; (with_reducible refine (cambiumref14_up.calls k5 _ _ l0 x14_5 t333 t334 _ ?side1 ?side2 A74.out).mono ?_); (case side1 => exact cb_ HR0); (case side2 => exact HC0.out); rintro e w79 ⟨rfl, hb⟩; refine ⟨_, rfl, ?_⟩; replace BK312 := kb_ BK312 hb; replace BK317 := kb_ BK317 hb; replace BK323 := kb_ BK323 hb; replace BK330 := kb_ BK330 hb; replace HB := hb_ hb; (try clear hb)))
                   go_roundg k5
                   case measure => have := HJ4.out; have := HK2.out; have := HK3.out; have := HJ29.out; have := HK5.out; omega
                   case rel => exact ⟨(t334), (wrap64 (x15_5 + 1)), rfl, rfl, H', ⟨by have := HJ4.out; have := HK2.out; have := HK3.out; have := HJ29.out; have := HK5.out; omega⟩, ⟨bk_ BK312⟩, ⟨bk_ BK317⟩, ⟨bk_ BK323⟩, ⟨bk_ BK330⟩, ⟨bel_⟩⟩
                  case' n5_ =>
                   rw [if_neg c73] at H
                   have c73b0 : decide (x15_5 ≤ (l0.length : Int)) = false := decide_eq_false c73
                   clear c73
                   refine Or.elim (Classical.em (x15_5 > (l0.length : Int))) (fun c80 => ?p6_) (fun c80 => ?n6_)
                   case' p6_ =>
                    rw [if_pos c80] at H
                    have c80b0 : decide ((l0.length : Int) < x15_5) = true := decide_eq_true c80
                    clear c80
                    obtain rfl := Option.some.inj H
                    have hnb81 := NB330_312.out
                    have hnc81 := NB312_330.out
                    have hnb82 := NB330_317.out
                    have hnc82 := NB317_330.out
                    have hnb83 := NB330_323.out
                    have hnc83 := NB323_330.out
                    obtain ⟨hcz84_0, hcz84_1, hcz84_2, hcz84_3, hcz84_4⟩ := cl5_ BK330
                    obtain ⟨hfz84_0, hfz84_1, hfz84_2, hfz84_3, hfz84_4⟩ := fz5_ BK330
                    refine ?z4_
                   case' n6_ =>
                    rw [if_neg c80] at H
                    have c80b0 : decide ((l0.length : Int) < x15_5) = false := decide_eq_false c80
                    clear c80
                    refine ?z7_
                case' n2_ =>
                 rw [if_neg c62] at H
                 have c62b0 : (t324 == 1) = false := beq_eq_false_iff_ne.mpr c62
                 have c62b1 : (t324 != 1) = true := bne_iff_ne.mpr c62
                 refine Or.elim (Classical.em (x15_5 > (l0.length : Int))) (fun c89 => ?p7_) (fun c89 => ?n7_)
                 case' p7_ =>
                  rw [if_pos c89] at H
                  have c89b0 : decide ((l0.length : Int) < x15_5) = true := decide_eq_true c89
                  clear c89
                  obtain rfl := Option.some.inj H
                  have hnb90 := NB330_312.out
                  have hnc90 := NB312_330.out
                  have hnb91 := NB330_317.out
                  have hnc91 := NB317_330.out
                  have hnb92 := NB330_323.out
                  have hnc92 := NB323_330.out
                  obtain ⟨hcz93_0, hcz93_1, hcz93_2, hcz93_3, hcz93_4⟩ := cl5_ BK330
                  obtain ⟨hfz93_0, hfz93_1, hfz93_2, hfz93_3, hfz93_4⟩ := fz5_ BK330
                  refine ?z5_
                 case' n7_ =>
                  rw [if_neg c89] at H
                  have c89b0 : decide ((l0.length : Int) < x15_5) = false := decide_eq_false c89
                  clear c89
                  refine ?z8_
                case p4_ | p6_ | p7_ =>
                 go_wp2
                 go_ret
                 exact ⟨rfl, bel_⟩
                case n4_ | n6_ | n7_ =>
                 have H' := ak_ H
                 clear H
                 have hnb901 := NB330_312.out
                 have hnc901 := NB312_330.out
                 have hnb902 := NB330_317.out
                 have hnc902 := NB317_330.out
                 have hnb903 := NB330_323.out
                 have hnc903 := NB323_330.out
                 obtain ⟨hcz904_0, hcz904_1, hcz904_2, hcz904_3, hcz904_4⟩ := cl5_ BK330
                 obtain ⟨hfz904_0, hfz904_1, hfz904_2, hfz904_3, hfz904_4⟩ := fz5_ BK330
                 go_wp2
                 go_roundg k5
                 case measure => have := HJ4.out; have := HK2.out; have := HK3.out; have := HJ29.out; have := HK5.out; omega
                 case rel => exact ⟨(wrap64 (x44_3 + 1)), rfl, H', ⟨by have := HJ4.out; have := HK2.out; have := HK3.out; have := HJ29.out; have := HK5.out; omega⟩, ⟨bk_ BK312⟩, ⟨bel_⟩⟩
             rw [if_neg c49] at H
             have c49b0 : ((IntKind.u64.wrap (t331)) == (IntKind.u64.wrap (t326))) = false := beq_eq_false_iff_ne.mpr c49
             have c49b1 : ((IntKind.u64.wrap (t331)) != (IntKind.u64.wrap (t326))) = true := bne_iff_ne.mpr c49
             obtain rfl := Option.some.inj H
             have hnb98 := NB323_312.out
             have hnc98 := NB312_323.out
             have hnb99 := NB323_317.out
             have hnc99 := NB317_323.out
             obtain ⟨hcz100_0, hcz100_1, hcz100_2, hcz100_3⟩ := cl4_ BK323
             obtain ⟨hfz100_0, hfz100_1, hfz100_2, hfz100_3⟩ := fz4_ BK323
             go_wp2_with (first | ((with_reducible refine gate_callee (f := 21) rfl ?_); refine gl_ (some 66) Tryz.func21 #[.slice (some ad316) l0.length c0, .int .u32 t319] ?_; (with_reducible refine (cambiumref14_inode.calls kj29 _ _ l0 t319 t324 t325 t326 t327 t328 t329 _ ?side1 ?side2 A47.out).mono ?_); (case side1 => exact cb_ HR0); (case side2 => exact HC0.out); rintro e w101 ⟨rfl, hb⟩; refine ⟨_, rfl, ?_⟩; replace BK312 := kb_ BK312 hb; replace BK317 := kb_ BK317 hb; replace BK323 := kb_ BK323 hb; replace HB := hb_ hb; (try clear hb)) | ((with_reducible refine gate_dst (N := 11) rfl ?_); (try (refine gate_guard (by rfl) ?_; dsimp only)); refine bx_ (N := 11) (cs := #[.int .u8 0, .int .u16 0, .int .u32 0, .int .u32 0, .string (⟨#[]⟩ : ByteArray)]) (t := 31) ?_; intro gb330 hg w102 hbox hb; have BK330 := ak_ (hbox); have GW330 := ge_ hg; have GE330 := ge_ hg; have NB312_330 := nl_ BK312 hg; have NB330_312 := ng_ BK312 hg; have NB317_330 := nl_ BK317 hg; have NB330_317 := ng_ BK317 hg; have NB323_330 := nl_ BK323 hg; have NB330_323 := ng_ BK323 hg; replace BK312 := kb_ BK312 hb; replace BK317 := kb_ BK317 hb; replace BK323 := kb_ BK323 hb; replace HB := hb_ hb; clear hb hbox hg; have hnb103 := NB330_312.out; have hnc103 := NB312_330.out; have hnb104 := NB330_317.out; have hnc104 := NB317_330.out; have hnb105 := NB330_323.out; have hnc105 := NB323_330.out; obtain ⟨hcz106_0, hcz106_1, hcz106_2, hcz106_3, hcz106_4⟩ := cl5_ BK330; obtain ⟨hfz106_0, hfz106_1, hfz106_2, hfz106_3, hfz106_4⟩ := fz5_ BK330; obtain ⟨hcz107_0, hcz107_1, hcz107_2, hcz107_3⟩ := cl4_ BK323; obtain ⟨hfz107_0, hfz107_1, hfz107_2, hfz107_3⟩ := fz4_ BK323) | ((with_reducible refine gate_callee (f := 31) rfl ?_); refine gl_ (some 73) Tryz.func31 #[.slice (some ad316) l0.length c0, .int .u32 t319] ?_; (with_reducible refine (cambiumref14_up.calls kj29 _ _ l0 t319 t331 t332 _ ?side1 ?side2 A48.out).mono ?_); (case side1 => exact Kd.C_below HR0.out bel_); (case side2 => exact HC0.out); rintro e w108 ⟨rfl, hb⟩; refine ⟨_, rfl, ?_⟩; replace BK312 := ak_ (blk_below (g := gb312) (o := .cells #[.int .u8 t306, .int .u16 t307, .int .u32 t308, .int .u32 t309, .string t310] 31 (0, 0)) (bs_) hb); replace BK317 := ak_ (blk_below (g := gb317) (o := .cells #[.string ((rd_T56 l0 x44_3).f0), .string ((rd_T56 l0 x44_3).f1)] 56 (0, 0)) (bs_) hb); replace BK323 := ak_ (blk_below (g := gb323) (o := .cells #[.int .u8 t318, .int .u32 t319, .string t320, .int .u32 t321] 59 (0, 0)) (bs_) hb); replace BK330 := ak_ (blk_below (g := gb330) (o := .cells #[.int .u8 t324, .int .u16 t325, .int .u32 t326, .int .u32 t327, .string t328] 31 (0, 0)) (bs_) hb); replace HB := hb_ hb; (try clear hb); obtain ⟨hcz109_0, hcz109_1, hcz109_2, hcz109_3, hcz109_4⟩ := cl5_ BK330; obtain ⟨hfz109_0, hfz109_1, hfz109_2, hfz109_3, hfz109_4⟩ := fz5_ BK330))
             go_ret
             exact ⟨rfl, bel_⟩
          rw [if_neg c28] at H
          exact absurd H (by simp)
         rw [if_neg c27] at H
         exact absurd H (by simp)
        rw [if_neg c26] at H
        have c26b0 : decide (x44_3 < (l0.length : Int)) = false := decide_eq_false c26
        clear c26
        obtain rfl := Option.some.inj H
        go_wp2
        go_ret
        exact ⟨rfl, bel_⟩
 rw [if_neg c3] at H
 have c3b0 : (t305 == 0) = false := beq_eq_false_iff_ne.mpr c3
 have c3b1 : (t305 != 0) = true := bne_iff_ne.mpr c3
 obtain rfl := Option.some.inj H
 go_enter Tryz.func14, Tryz.ntmps14
 go_wp2_with (first | ((with_reducible refine gate_callee (f := 29) rfl ?_); refine gl_ (some 17) Tryz.func29 #[.slice A0 l0.length c0] ?_; (with_reducible refine (cambiumref04_Check.calls k _ _ l0 t305 _ ?side1 ?side2 A2.out).mono ?_); (case side1 => repeat (first | exact HR0.out | (with_reducible refine Kd.C_alloc ?_ _) | (with_reducible refine Kd.C_drewN ?_ _) | (with_reducible refine Kd.C_drew ?_))); (case side2 => exact HC0.out); rintro e w110 ⟨rfl, hb⟩; refine ⟨_, rfl, ?_⟩; replace HB := hb_ hb; (try clear hb)))
 go_ret
 exact ⟨rfl, bel_⟩
def cambiumref14_Entry.l0 : Nat → ByteArray → Int → List (S56) → Int → Int → Option (Int)
 | 0, _, _, _, _, _ => none
 | k + 1, x7, x8, x18, x19, x20 => if x20 < x19 then (if 0 ≤ x20 then (if x20 < (x18.length : Int) then (if x8 = 0 then (if ((rd_T56 x18 x20).f0).toList = x7.toList then ((cambiumref14_named.f k ((rd_T56 x18 x20).f0) ((rd_T56 x18 x20).f1)).bind fun t339 => (some t339)) else (cambiumref14_Entry.l0 k x7 x8 x18 x19 (wrap64 (x20 + 1)))) else (cambiumref14_Entry.l0 k x7 x8 x18 x19 (wrap64 (x20 + 1)))) else (none)) else (none)) else (some 0)
def cambiumref14_Entry.f (k : Nat) (l0 : List (S56)) (a1 : Int) (a2 : ByteArray) : Option (Int) := (cambiumref12_Key.f k 2 a1 a2 0).bind fun bt335 => (cambiumref14_Entry.l0 k bt335.1 bt335.2 l0 (l0.length : Int) 0)
theorem cambiumref14_Entry.mono_l : ∀ k, (∀ y0 y1 y2 y3 y4, LeO (cambiumref14_Entry.l0 k y0 y1 y2 y3 y4) (cambiumref14_Entry.l0 (k + 1) y0 y1 y2 y3 y4))
 | 0 => by intros; intro r h; simp [cambiumref14_Entry.l0] at h
 | k + 1 => by
  have ih0 := cambiumref14_Entry.mono_l k
  intros
  unfold cambiumref14_Entry.l0
  repeat' (first | (with_reducible first | exact ih0 _ _ _ _ _ | exact cambiumref12_Key.mono _ _ _ _ _ | exact cambiumref14_named.mono _ _ _ | exact LeO.refl _ | exact LeO.none _ | refine LeO.ite ?_ ?_ | refine LeO.bind ?_ (fun _ => ?_)))
theorem cambiumref14_Entry.mono : ∀ a0 a1 a2 k, LeO (cambiumref14_Entry.f k a0 a1 a2) (cambiumref14_Entry.f (k + 1) a0 a1 a2) := by
 intro a0 a1 a2 k
 have ih0 := cambiumref14_Entry.mono_l k
 unfold cambiumref14_Entry.f
 repeat' (first | (with_reducible first | exact ih0 _ _ _ _ _ | exact cambiumref12_Key.mono _ _ _ _ _ | exact cambiumref14_named.mono _ _ _ | exact LeO.refl _ | exact LeO.none _ | refine LeO.ite ?_ ?_ | refine LeO.bind ?_ (fun _ => ?_)))
set_option maxHeartbeats 64000000 in
set_option maxRecDepth 100000 in
theorem cambiumref14_Entry.calls (k : Nat) (A0 : Option Addr) (c0 : Nat) (l0 : List (S56)) (a1 : Int) (a2 : ByteArray) (r : Int) (w : World) (hr0 : Kd.C k56 w A0 l0.length l0) (hc0 : l0.length ≤ c0) (h : cambiumref14_Entry.f k l0 a1 a2 = some r) :
  Calls Tryz.prog 22 #[.slice A0 l0.length c0, .int .u32 a1, .string a2] w fun e w' => e = .returned (.int .u32 r) ∧ Below w.heap.size w w' := by
 have hu59 := Tryz.underlying59
 have hu56 := Tryz.underlying56
 have HR0 := ak_ hr0
 have HC0 := ak_ hc0
 clear hr0 hc0
 have HB := ak_ (Below.refl w.heap.size w)
 have H : ((cambiumref12_Key.f k 2 a1 a2 0).bind fun bt335 => (cambiumref14_Entry.l0 k bt335.1 bt335.2 l0 (l0.length : Int) 0)) = some r := h
 clear h
 replace H := Option.bind_eq_some_iff.mp H
 obtain ⟨⟨t335, t336⟩, A40, H⟩ := H
 try dsimp only at H
 have A4 := ak_ A40
 clear A40
 have H' := ak_ H
 clear H
 go_enter Tryz.func22, Tryz.ntmps22
 go_wp2_with (first | ((with_reducible refine gate_callee (f := 34) rfl ?_); refine gl_ (some 15) Tryz.func34 #[.agg #[.int .u8 2, .int .u32 a1, .string a2, .int .u32 0]] ?_; (with_reducible refine (cambiumref12_Key.calls k 2 a1 a2 0 t335 t336 _ A4.out).mono ?_); rintro e w5 ⟨rfl, hb⟩; refine ⟨_, rfl, ?_⟩; replace HB := hb_ hb; (try clear hb)))
 go_loopg [20] k (fun kq v20 w' => ∃ (x20_1 : Int), v20 = .int .i64 x20_1 ∧ Aside0 (cambiumref14_Entry.l0 kq t335 t336 l0 (l0.length : Int) x20_1 = some r) ∧ Aside0 (kq ≤ k) ∧ Aside0 (Below w.heap.size w w'))
 case atStart => exact ⟨(0), (by first | rfl | (simp; done) | (simp [*]; done)), H', ⟨Nat.le_refl _⟩, ⟨bel_⟩⟩
 case round =>
  clear H'
  try clear c2
  try clear p2
  try clear c3
  obtain ⟨x20_1, rfl, HA, HK1, HB⟩ := hrel
  cases gk with
  | zero => exact absurd HA.out (by simp [cambiumref14_Entry.l0])
  | succ k1 =>
   have H := HA.out
   clear HA
   simp only [cambiumref14_Entry.l0] at H
   refine Or.elim (Classical.em (x20_1 < (l0.length : Int))) (fun c6 => ?p1_) (fun c6 => ?n1_)
   case' p1_ =>
    rw [if_pos c6] at H
    have c6b0 : decide (x20_1 < (l0.length : Int)) = true := decide_eq_true c6
    clear c6
    refine Or.elim (Classical.em (0 ≤ x20_1)) (fun c7 => ?p2_) (fun c7 => ?n2_)
    case' p2_ =>
     rw [if_pos c7] at H
     have c7b0 : decide (0 ≤ x20_1) = true := decide_eq_true c7
     clear c7
     refine Or.elim (Classical.em (x20_1 < (l0.length : Int))) (fun c8 => ?p3_) (fun c8 => ?n3_)
     case' p3_ =>
      rw [if_pos c8] at H
      have c8b0 : decide (x20_1 < (l0.length : Int)) = true := decide_eq_true c8
      clear c8
      refine Or.elim (Classical.em (t336 = 0)) (fun c9 => ?p4_) (fun c9 => ?n4_)
      case' p4_ =>
       rw [if_pos c9] at H
       have c9b0 : (t336 == 0) = true := beq_iff_eq.mpr c9
       have c9b1 : (t336 != 0) = false := bne_eq_false_iff_eq.mpr c9
       clear c9
       refine Or.elim (Classical.em (((rd_T56 l0 x20_1).f0).toList = t335.toList)) (fun c10 => ?p5_) (fun c10 => ?n5_)
       case p5_ =>
        rw [if_pos c10] at H
        have c10b0 : (((rd_T56 l0 x20_1).f0).toList == t335.toList) = true := beq_iff_eq.mpr c10
        have c10b1 : (((rd_T56 l0 x20_1).f0).toList != t335.toList) = false := bne_eq_false_iff_eq.mpr c10
        clear c10
        replace H := Option.bind_eq_some_iff.mp H
        obtain ⟨t339, A110, H⟩ := H
        try dsimp only at H
        have A11 := ak_ A110
        clear A110
        obtain rfl := Option.some.inj H
        have p337 : 0 ≤ (x20_1 : Int) := of_decide_eq_true (by first | (with_reducible assumption) | assumption)
        have q337 : x20_1 < (l0.length : Int) := of_decide_eq_true (by first | (with_reducible assumption) | assumption)
        obtain ⟨ad337, e337, hx337_0, hx337_1⟩ := at_T56 HR0.out x20_1 p337 q337
        cases e337
        replace hx337_0 := (HB.out.cell (World.block_lt_of_cell? w _ hx337_0)).trans hx337_0
        replace hx337_1 := (HB.out.cell (World.block_lt_of_cell? w _ hx337_1)).trans hx337_1
        replace p337 := eq_true p337
        replace q337 := eq_true q337
        go_wp2_with (first | ((with_reducible refine gate_dst (N := 10) rfl ?_); refine bx_ (N := 10) (cs := #[.string (⟨#[]⟩ : ByteArray), .string (⟨#[]⟩ : ByteArray)]) (t := 56) ?_; intro gb338 hg w12 hbox hb; have BK338 := ak_ (hbox); have GW338 := ge_ hg; have GE338 := ge_ hg; replace HB := hb_ hb; clear hb hbox hg; obtain ⟨hcz13_0, hcz13_1⟩ := cl2_ BK338; obtain ⟨hfz13_0, hfz13_1⟩ := fz2_ BK338) | ((with_reducible refine gate_callee (f := 27) rfl ?_); refine gl_ (some 33) Tryz.func27 #[.agg #[.string ((rd_T56 l0 x20_1).f0), .string ((rd_T56 l0 x20_1).f1)]] ?_; (with_reducible refine (cambiumref14_named.calls k1 ((rd_T56 l0 x20_1).f0) ((rd_T56 l0 x20_1).f1) t339 _ A11.out).mono ?_); rintro e w14 ⟨rfl, hb⟩; refine ⟨_, rfl, ?_⟩; replace BK338 := ak_ (blk_below (g := gb338) (o := .cells #[.string ((rd_T56 l0 x20_1).f0), .string ((rd_T56 l0 x20_1).f1)] 56 (0, 0)) (bs_) hb); replace HB := hb_ hb; (try clear hb)))
        go_ret
        exact ⟨by first | rfl | (simp [errW_none, errW_some] <;> rfl) | (simp [*, errW_none, errW_some] <;> rfl), bel_⟩
       case' n5_ =>
        rw [if_neg c10] at H
        have c10b0 : (((rd_T56 l0 x20_1).f0).toList == t335.toList) = false := beq_eq_false_iff_ne.mpr c10
        have c10b1 : (((rd_T56 l0 x20_1).f0).toList != t335.toList) = true := bne_iff_ne.mpr c10
        refine ?z1_
      case' n4_ =>
       rw [if_neg c9] at H
       have c9b0 : (t336 == 0) = false := beq_eq_false_iff_ne.mpr c9
       have c9b1 : (t336 != 0) = true := bne_iff_ne.mpr c9
       refine ?z2_
     case n3_ =>
      rw [if_neg c8] at H
      exact absurd H (by simp)
    case n2_ =>
     rw [if_neg c7] at H
     exact absurd H (by simp)
   case n1_ =>
    rw [if_neg c6] at H
    have c6b0 : decide (x20_1 < (l0.length : Int)) = false := decide_eq_false c6
    clear c6
    obtain rfl := Option.some.inj H
    go_wp2
    go_ret
    exact ⟨by first | rfl | (simp [errW_none, errW_some] <;> rfl) | (simp [*, errW_none, errW_some] <;> rfl), bel_⟩
   case p4_ | n4_ =>
    have H' := ak_ H
    clear H
    have p337 : 0 ≤ (x20_1 : Int) := of_decide_eq_true (by first | (with_reducible assumption) | assumption)
    have q337 : x20_1 < (l0.length : Int) := of_decide_eq_true (by first | (with_reducible assumption) | assumption)
    obtain ⟨ad337, e337, hx337_0, hx337_1⟩ := at_T56 HR0.out x20_1 p337 q337
    cases e337
    replace hx337_0 := (HB.out.cell (World.block_lt_of_cell? w _ hx337_0)).trans hx337_0
    replace hx337_1 := (HB.out.cell (World.block_lt_of_cell? w _ hx337_1)).trans hx337_1
    replace p337 := eq_true p337
    replace q337 := eq_true q337
    go_wp2_with (first | ((with_reducible refine gate_dst (N := 10) rfl ?_); refine bx_ (N := 10) (cs := #[.string (⟨#[]⟩ : ByteArray), .string (⟨#[]⟩ : ByteArray)]) (t := 56) ?_; intro gb338 hg w901 hbox hb; have BK338 := ak_ (hbox); have GW338 := ge_ hg; have GE338 := ge_ hg; replace HB := hb_ hb; clear hb hbox hg; obtain ⟨hcz902_0, hcz902_1⟩ := cl2_ BK338; obtain ⟨hfz902_0, hfz902_1⟩ := fz2_ BK338))
    go_roundg k1
    case measure => have := HK1.out; omega
    case rel => exact ⟨(wrap64 (x20_1 + 1)), (by first | rfl | (simp; done) | (simp [*]; done)), H', ⟨by have := HK1.out; omega⟩, ⟨bel_⟩⟩
end Go.Proofs.YtpnmajblhgnkoaaGreat.Z
end

section
namespace Go.Proofs.YtpnmajblhgnkoaaGreat.Z
open Go.Proofs.YtpnmajblhgnkoaaGreat.PM
def decO (v : ByteArray) : Option INd := if (decS v.data.toList).2.2.2.2.2 = 0 then some (inoS v) else none
def inR (l : List It) (a : Int) : Option INd := if rightK 1 a [] 0 = true then (look l (keyL 1 a [] 0)).bind decO else none
def tupB (o : Option INd) : Int × Int × Int × Int × ByteArray × Bool := match o with
  | none => (0, 0, 0, 0, ⟨#[]⟩, false)
  | some n => (n.kd, n.md, n.ln, n.sz, n.tg, true)
theorem tupB_kd (o : Option INd) : (tupB o).1 = (o.getD zI).kd := by cases o <;> rfl
theorem tupB_is (o : Option INd) : (tupB o).2.2.2.2.2 = o.isSome := by cases o <;> rfl
theorem tupB_ln (o : Option INd) : (tupB o).2.2.1 = (o.getD zI).ln := by cases o <;> rfl
theorem tupB_sz (o : Option INd) : (tupB o).2.2.2.1 = (o.getD zI).sz := by cases o <;> rfl
theorem tupB_tg (o : Option INd) : (tupB o).2.2.2.2.1 = (o.getD zI).tg := by cases o <;> rfl
theorem decO_tup (v : ByteArray) : ((baI (decS v.data.toList)).1, (baI (decS v.data.toList)).2.1, (baI (decS v.data.toList)).2.2.1, (baI (decS v.data.toList)).2.2.2.1, (baI (decS v.data.toList)).2.2.2.2.1, ((baI (decS v.data.toList)).2.2.2.2.2 == 0)) = tupB (decO v) := by
  unfold decO inoS decS
  split
  · rfl
  · rfl
theorem inode_l0 (l : List It) (hl : l.length ≤ 4398046511104) (hv : ∀ x ∈ l, x.f1.size ≤ 160) (K : ByteArray) : ∀ d i : Nat, l.length = i + d →
    Ev (fun k => cambiumref14_inode.l0 k K l (l.length : Int) (i : Int)) (tupB (if K.toList = [] then none else (look (l.drop i) K.toList).bind decO)) := by
  intro d
  induction d with
  | zero =>
    intro i hi
    refine Ev.step (fun k => by rw [cambiumref14_inode.l0]) ?_
    refine Ev.ifn (by omega) (Ev.const ?_)
    rw [List.drop_of_length_le (by omega)]
    split <;> rfl
  | succ d ih =>
    intro i hi
    have hlt : i < l.length := by omega
    have ihh := ih (i + 1) (by omega)
    refine Ev.step (fun k => by rw [cambiumref14_inode.l0]) ?_
    rw [rd_get l i hlt, w64 (i := (i : Int) + 1) (by omega) (by omega)]
    refine Ev.ifp (by omega) (Ev.ifp (by omega) (Ev.ifp (by omega) ?_))
    rw [List.drop_eq_getElem_cons hlt, look_cons]
    by_cases hK : K.toList = []
    · rw [if_pos hK] at ihh ⊢
      refine Ev.ite (fun _ => Ev.ifp hK ihh) (fun _ => ihh)
    · rw [if_neg hK] at ihh ⊢
      refine Ev.ite (fun hk => ?_) (fun hk => ?_)
      · rw [if_pos hk]
        refine Ev.ifn hK ?_
        refine Ev.bind (rdecode_f _ (by have := hv l[i] (List.getElem_mem hlt); omega)) (Ev.const ?_)
        exact congrArg some (decO_tup _)
      · rw [if_neg hk]; exact ihh
theorem inode_f {l : List It} (hl : l.length ≤ 4398046511104) (hv : ∀ x ∈ l, x.f1.size ≤ 160) {a : Int} (ha : 0 ≤ a ∧ a < 4294967296) : Ev (fun k => cambiumref14_inode.f k l a) (tupB (inR l a)) := by
  unfold cambiumref14_inode.f
  refine Ev.bind (rkey_f 1 a ⟨#[]⟩ 0 ha (by decide) (by decide)) ?_
  refine Ev.val (inode_l0 l hl hv _ l.length 0 (by omega)) ?_
  show tupB (if (ba (keyS 1 a [] 0).1).toList = [] then none else (look (l.drop 0) (ba (keyS 1 a [] 0).1).toList).bind decO) = _
  rw [ba_toList, List.drop_zero]
  unfold keyS inR
  by_cases hr : rightK 1 a [] 0 = true
  · rw [if_pos hr, if_pos hr]
    rw [if_neg (show ¬ keyL 1 a [] 0 = [] by unfold keyL prefL; rw [if_neg (by decide)]; simp [lett])]
  · rw [if_neg hr, if_neg hr]
    rfl
theorem named_f (a v : ByteArray) : Ev (fun k => cambiumref14_named.f k a v) (numS v) := by
  unfold cambiumref14_named.f
  refine Ev.bind (rnum_f v 4 (by decide) (by decide)) ?_
  unfold numS ba3 takeS
  by_cases h : v.data.toList.length < 4
  · refine Ev.ifn (by simp only [if_pos h]; decide) (Ev.const ?_)
    rw [if_neg (by omega)]
  · refine Ev.ifp (by simp only [if_neg h]) ?_
    by_cases h4 : v.data.toList.length = 4
    · have hd : v.data.toList.drop 4 = [] := List.drop_eq_nil_of_le (by omega)
      have ht : v.data.toList.take 4 = v.data.toList := List.take_of_length_le (by omega)
      have hn := num_lt 4 v.data.toList h4
      rw [p4] at hn
      refine Ev.ifp (by simp only [ba_toList]; exact hd) ?_
      simp only [if_neg h, ht, if_pos h4]
      refine Ev.ite (fun h1 => Ev.const (by rw [if_pos (by omega)])) (fun h1 => Ev.const (by rw [if_neg (by omega)]; congr 1; omega))
    · refine Ev.ifn (by simp only [ba_toList]; intro h0; have := congrArg List.length h0; rw [List.length_drop, List.length_nil] at this; omega) (Ev.const ?_)
      rw [if_neg h4]
def sR (l : List It) : VS := ⟨l.map keptS, inR l, fun _ => none, 0⟩
def pe (x : It) : Int := (parsS x.f0.data.toList).2.2.2.2
def oneB (l : List It) (x : It) : Bool := pe x == 0 && fitsS (sR l) (keptS x)
theorem pe_key {x : It} (h : pe x = 0) : rightK (keptS x).f0 (keptS x).f1 (keptS x).f2.data.toList (keptS x).f3 = true ∧ keyL (keptS x).f0 (keptS x).f1 (keptS x).f2.data.toList (keptS x).f3 = x.f0.data.toList ∧ (0 ≤ (keptS x).f1 ∧ (keptS x).f1 < 4294967296) ∧ 0 ≤ (keptS x).f3 := by
  have := key_pars (l := x.f0.data.toList) rfl h
  unfold keptS
  rw [ba_data]
  exact this
theorem inR_sz (l : List It) (a : Int) : 0 ≤ ((inR l a).getD zI).sz ∧ ((inR l a).getD zI).sz < 4294967296 := by
  unfold inR
  by_cases hr : rightK 1 a [] 0 = true
  · rw [if_pos hr]
    cases look l (keyL 1 a [] 0) with
    | none => exact ⟨by decide, by decide⟩
    | some v =>
      show 0 ≤ ((decO v).getD zI).sz ∧ ((decO v).getD zI).sz < 4294967296
      unfold decO
      split
      · exact inoS_sz v
      · exact ⟨by decide, by decide⟩
  · rw [if_neg hr]; exact ⟨by decide, by decide⟩
theorem one_f {l : List It} (hl : l.length ≤ 4398046511104) (hv : ∀ x ∈ l, x.f1.size ≤ 160) {x : It} (hx : x.f1.size ≤ 160) (hk : x.f0.size ≤ 48) : Ev (fun k => cambiumref14_one.f k l x.f0 x.f1) (oneB l x) := by
  unfold cambiumref14_one.f oneB
  refine Ev.bind (rparse_f x.f0 (by omega)) ?_
  show Ev (fun k => if pe x = 0 then (cambiumref14_inode.f k l (keptS x).f1).bind _ else _) _
  by_cases hp : pe x = 0
  · refine Ev.ifp hp ?_
    rw [hp]
    show Ev _ (fitsS (sR l) (keptS x))
    obtain ⟨hr, _, hi, h3⟩ := pe_key hp
    refine Ev.bind (inode_f hl hv hi) ?_
    show Ev (fun k => if (keptS x).f0 = 2 then _ else if (keptS x).f0 = 3 then _ else if (keptS x).f0 = 4 then _ else _) _
    unfold fitsS
    refine Ev.ite (fun h2 => ?_) (fun h2 => ?_)
    · rw [if_pos h2]
      refine Ev.bind (named_f _ _) ?_
      have hn := numS_range x.f1
      refine Ev.bind (inode_f hl hv (a := numS x.f1) (by omega)) ?_
      show Ev _ ((inR l (keptS x).f1).isSome && (inR l (numS x.f1)).isSome && ((inR l (keptS x).f1).getD zI).kd == 1)
      rw [tupB_is, tupB_is, tupB_kd]
      cases (inR l (keptS x).f1).isSome with
      | false => exact Ev.ifn (by decide) (Ev.const rfl)
      | true =>
        refine Ev.ifp rfl ?_
        refine Ev.ite (fun h => Ev.const ?_) (fun h => Ev.const ?_)
        · rw [h, Bool.true_and]; exact congrArg some (Bool.and_true _).symm
        · rw [beq_eq_false_iff_ne.2 h, Bool.and_false]
    · rw [if_neg h2]
      refine Ev.ite (fun h3 => ?_) (fun h3 => ?_)
      · rw [if_pos h3]
        show Ev _ ((inR l (keptS x).f1).isSome && ((inR l (keptS x).f1).getD zI).kd == 2 && decide (0 ≤ (x.f1.size : Int) - 1) && decide ((x.f1.size : Int) - 1 < 128) && bt x.f1 ((x.f1.size : Int) - 1) != 0 && decide ((keptS x).f3 * 128 + ((x.f1.size : Int) - 1) < ((inR l (keptS x).f1).getD zI).sz))
        have hs := inR_sz l (keptS x).f1
        rw [h3] at hr
        have hc : (keptS x).f3 < 512 := by
          unfold rightK at hr
          have := (of_decide_eq_true hr).2
          omega
        rw [tupB_is, tupB_kd, tupB_sz]
        generalize ((inR l (keptS x).f1).getD zI).sz = sz at hs ⊢
        cases (inR l (keptS x).f1).isSome with
        | false => exact Ev.ifn (by decide) (Ev.const rfl)
        | true =>
          refine Ev.ifp rfl ?_
          by_cases hk2 : ((inR l (keptS x).f1).getD zI).kd = 2
          · refine Ev.ifp hk2 ?_
            rw [hk2]
            by_cases h1 : (x.f1.size : Int) ≥ 1
            · refine Ev.ifp h1 ?_
              by_cases h128 : (x.f1.size : Int) ≤ 128
              · refine Ev.ifp h128 ?_
                rw [w64 (i := (x.f1.size : Int) - 1) (by omega) (by omega)]
                refine Ev.ifp (by omega) (Ev.ifp (by omega) ?_)
                have e1 : decide (0 ≤ (x.f1.size : Int) - 1) = true := decide_eq_true (by omega)
                have e2 : decide ((x.f1.size : Int) - 1 < 128) = true := decide_eq_true (by omega)
                rw [e1, e2]
                refine Ev.ite (fun hz => Ev.const ?_) (fun hz => Ev.const ?_)
                · rw [hz]; rfl
                · rw [(bne_iff_ne.2 hz : (bt x.f1 ((x.f1.size : Int) - 1) != 0) = true)]
                  show some (decide (wrap64 (wrap64 (wrap64 (keptS x).f3 * 128) + (x.f1.size : Int)) ≤ wrap64 sz)) = some (decide ((keptS x).f3 * 128 + ((x.f1.size : Int) - 1) < sz))
                  have h30 : 0 ≤ (keptS x).f3 := by assumption
                  rw [w64 (i := (keptS x).f3) (by omega) (by omega), w64 (i := (keptS x).f3 * 128) (by omega) (by omega), w64 (i := (keptS x).f3 * 128 + (x.f1.size : Int)) (by omega) (by omega), w64 (i := sz) (by omega) (by omega)]
                  exact congrArg some (decide_eq_decide.2 (by omega))
              · refine Ev.ifn h128 (Ev.const ?_)
                have e2 : decide ((x.f1.size : Int) - 1 < 128) = false := decide_eq_false (by omega)
                rw [e2]; simp
            · refine Ev.ifn h1 (Ev.const ?_)
              have e1 : decide (0 ≤ (x.f1.size : Int) - 1) = false := decide_eq_false (by omega)
              rw [e1]; simp
          · refine Ev.ifn hk2 (Ev.const ?_)
            rw [beq_eq_false_iff_ne.2 hk2]; rfl
      · rw [if_neg h3]
        refine Ev.ite (fun h4 => ?_) (fun h4 => Ev.const ?_)
        · rw [if_pos h4, tupB_is]
          show Ev _ ((inR l (keptS x).f1).isSome && decide ((x.f1.size : Int) ≤ 64))
          cases (inR l (keptS x).f1).isSome with
          | false => exact Ev.ifn (by decide) (Ev.const rfl)
          | true => exact Ev.ifp rfl (Ev.const rfl)
        · rw [if_neg h4, tupB_is]; rfl
  · refine Ev.ifn hp (Ev.const ?_)
    rw [beq_eq_false_iff_ne.2 hp]; rfl
def upT (a : Int) (p : Int × Int) (x : It) : Int × Int := if (keptS x).f0 = 2 ∧ numS x.f1 = a then (wrap64 (p.1 + 1), (keptS x).f1) else p
def upS (l : List It) (a : Int) : Int × Int := l.foldl (upT a) (0, 0)
theorem up_l0 (l : List It) (hl : l.length ≤ 4398046511104) (hk : ∀ x ∈ l, x.f0.size ≤ 48) (a : Int) : ∀ d i : Nat, l.length = i + d → ∀ c e : Int,
    Ev (fun k => cambiumref14_up.l0 k a c e l (l.length : Int) (i : Int)) ((l.drop i).foldl (upT a) (c, e)) := by
  intro d
  induction d with
  | zero =>
    intro i hi c e
    refine Ev.step (fun k => by rw [cambiumref14_up.l0]) ?_
    refine Ev.ifn (by omega) (Ev.const ?_)
    rw [List.drop_of_length_le (by omega)]; rfl
  | succ d ih =>
    intro i hi c e
    have hlt : i < l.length := by omega
    have ihh := ih (i + 1) (by omega)
    refine Ev.step (fun k => by rw [cambiumref14_up.l0]) ?_
    rw [rd_get l i hlt, w64 (i := (i : Int) + 1) (by omega) (by omega)]
    refine Ev.ifp (by omega) (Ev.ifp (by omega) (Ev.ifp (by omega) ?_))
    refine Ev.bind (rparse_f _ (by have := hk l[i] (List.getElem_mem hlt); omega)) ?_
    rw [List.drop_eq_getElem_cons hlt, List.foldl_cons]
    show Ev (fun k => if (keptS l[i]).f0 = 2 then _ else _) _
    unfold upT
    refine Ev.ite (fun h2 => ?_) (fun h2 => ?_)
    · refine Ev.bind (named_f _ _) ?_
      refine Ev.ite (fun ha => ?_) (fun ha => ?_)
      · rw [if_pos ⟨h2, ha⟩]; exact ihh _ _
      · rw [if_neg (fun h => ha h.2)]; exact ihh _ _
    · rw [if_neg (fun h => h2 h.1)]; exact ihh _ _
theorem up_f {l : List It} (hl : l.length ≤ 4398046511104) (hk : ∀ x ∈ l, x.f0.size ≤ 48) (a : Int) : Ev (fun k => cambiumref14_up.f k l a) (upS l a) := by
  unfold cambiumref14_up.f
  exact up_l0 l hl hk a l.length 0 (by omega) 0 0
theorem entry_l0 (l : List It) (hl : l.length ≤ 4398046511104) (K : ByteArray) (e : Int) : ∀ d i : Nat, l.length = i + d →
    Ev (fun k => cambiumref14_Entry.l0 k K e l (l.length : Int) (i : Int)) (if e = 0 then numS ((look (l.drop i) K.toList).getD ⟨#[]⟩) else 0) := by
  intro d
  induction d with
  | zero =>
    intro i hi
    refine Ev.step (fun k => by rw [cambiumref14_Entry.l0]) ?_
    refine Ev.ifn (by omega) (Ev.const ?_)
    rw [List.drop_of_length_le (by omega)]
    split <;> rfl
  | succ d ih =>
    intro i hi
    have hlt : i < l.length := by omega
    have ihh := ih (i + 1) (by omega)
    refine Ev.step (fun k => by rw [cambiumref14_Entry.l0]) ?_
    rw [rd_get l i hlt, w64 (i := (i : Int) + 1) (by omega) (by omega)]
    refine Ev.ifp (by omega) (Ev.ifp (by omega) (Ev.ifp (by omega) ?_))
    rw [List.drop_eq_getElem_cons hlt, look_cons]
    by_cases he : e = 0
    · rw [if_pos he] at ihh ⊢
      refine Ev.ifp he ?_
      refine Ev.ite (fun hk => ?_) (fun hk => ?_)
      · rw [if_pos hk]
        exact Ev.bind (named_f _ _) (Ev.const rfl)
      · rw [if_neg hk]; exact ihh
    · rw [if_neg he] at ihh ⊢
      exact Ev.ifn he ihh
theorem rEntry_f {l : List It} (hl : l.length ≤ 4398046511104) {i : Int} (hi : 0 ≤ i ∧ i < 4294967296) (nm : ByteArray) (hs : nm.size ≤ 9223372036854775807) : Ev (fun k => cambiumref14_Entry.f k l i nm) (entryS l i nm) := by
  unfold cambiumref14_Entry.f
  refine Ev.bind (rkey_f 2 i nm 0 hi (by decide) hs) ?_
  refine Ev.val (entry_l0 l hl _ _ l.length 0 (by omega)) ?_
  unfold entryS keyS
  rw [List.drop_zero]
  by_cases hr : rightK 2 i nm.data.toList 0 = true
  · rw [if_pos hr, if_pos hr]
    simp only [ba_toList]
    rfl
  · rw [if_neg hr, if_neg hr]
    rfl
end Go.Proofs.YtpnmajblhgnkoaaGreat.Z
end

section
namespace Go.Proofs.YtpnmajblhgnkoaaGreat.Z
attribute [local go_sem] max2_int min2_int max_two min_two max_three min_three max_four min_four   -- for this text's walks alone
def dirs_New.f (k : Nat)  : Option ((List (S56))) := (inode_Key.f k 1 1 (⟨#[]⟩ : ByteArray) 0).bind fun bt436 => ((inode_Encode.f k 1 0 1 0 (⟨#[]⟩ : ByteArray)).bind fun bt438 => (some (([(⟨bt436.1, bt438.1⟩ : S56)] : List (S56)))))
theorem dirs_New.mono : ∀ k, LeO (dirs_New.f k ) (dirs_New.f (k + 1) ) := by
 intro  k
 unfold dirs_New.f
 repeat' (first | (with_reducible first | exact inode_Encode.mono _ _ _ _ _ _ | exact inode_Key.mono _ _ _ _ _ | exact LeO.refl _ | exact LeO.none _ | refine LeO.ite ?_ ?_ | refine LeO.bind ?_ (fun _ => ?_)))
set_option maxHeartbeats 8000000 in
set_option maxRecDepth 100000 in
theorem dirs_New.calls (k : Nat)  (r : List (S56)) (w : World) (h : dirs_New.f k  = some r) :
  Calls Tryz.prog 16 #[] w fun e w' => ∃ v0_ : Value, e = .returned (v0_) ∧ Kd.R k56 56 w' w.heap.size (fun _ => True) v0_ r ∧ Below w.heap.size w w' := by
 have hu59 := Tryz.underlying59
 have hu31 := Tryz.underlying31
 have hu56 := Tryz.underlying56
 have HB := ak_ (Below.refl w.heap.size w)
 have H : ((inode_Key.f k 1 1 (⟨#[]⟩ : ByteArray) 0).bind fun bt436 => ((inode_Encode.f k 1 0 1 0 (⟨#[]⟩ : ByteArray)).bind fun bt438 => (some (([(⟨bt436.1, bt438.1⟩ : S56)] : List (S56)))))) = some r := h
 clear h
 replace H := Option.bind_eq_some_iff.mp H
 obtain ⟨⟨t436, t437⟩, A10, H⟩ := H
 try dsimp only at H
 have A1 := ak_ A10
 clear A10
 replace H := Option.bind_eq_some_iff.mp H
 obtain ⟨⟨t438, t439⟩, A20, H⟩ := H
 try dsimp only at H
 have A2 := ak_ A20
 clear A20
 obtain ⟨y440, hy440⟩ : ∃ y_ : List (S56), y_ = (([(⟨t436, t438⟩ : S56)] : List (S56))) := ⟨_, rfl⟩
 replace H : (some y440) = some r := by first | (rw [hy440]; with_reducible exact H) | (have H2_ := (Option.bind_some _ _).symm.trans H; rw [hy440]; with_reducible exact H2_) | (have H2_ := (Option.bind_some _ _).symm.trans H; with_reducible exact H2_) | with_reducible exact H | (rw [hy440]; exact H) | exact H
 have Ny440 := ak_ hy440
 clear hy440
 obtain rfl := Option.some.inj H
 go_enter Tryz.func16, Tryz.ntmps16
 go_wp2_with (first | ((with_reducible refine gate_callee (f := 32) rfl ?_); refine gl_ (some 7) Tryz.func32 #[.agg #[.int .u8 1, .int .u32 1, .string (⟨#[]⟩ : ByteArray), .int .u32 0]] ?_; (with_reducible refine (inode_Key.calls k 1 1 (⟨#[]⟩ : ByteArray) 0 t436 t437 _ A1.out).mono ?_); rintro e w3 ⟨rfl, hb⟩; refine ⟨_, rfl, ?_⟩; replace HB := hb_ hb; (try clear hb)) | ((with_reducible refine gate_callee (f := 33) rfl ?_); refine gl_ (some 12) Tryz.func33 #[.agg #[.int .u8 1, .int .u16 0, .int .u32 1, .int .u32 0, .string (⟨#[]⟩ : ByteArray)]] ?_; (with_reducible refine (inode_Encode.calls k 1 0 1 0 (⟨#[]⟩ : ByteArray) t438 t439 _ A2.out).mono ?_); rintro e w4 ⟨rfl, hb⟩; refine ⟨_, rfl, ?_⟩; replace HB := hb_ hb; (try clear hb)) | ((with_reducible refine gate_dst (N := 18) rfl ?_); refine Kd.R_lit k56 _ 56 ?hg (N := 18) ?hd (xs := ([(⟨t436, t438⟩ : S56)] : List (S56))) (inner := [.string t436, .string t438]) (ok := fun _ => True) (okp := fun _ => True) ?hr ?hp (fun _ hk => hk) trivial (Below.refl _ _) (Nat.le_refl _) (by simp) ?_; (case hd => rfl); (case hg => rfl); (case hr => first | (go_simp; done) | (go_simp; rfl)); (case hp => exact (Reps.c2 (show Kd.M k56 _ _ _ (⟨t436, t438⟩ : S56) [.string t436, .string t438] from (k56_mkM _ _ _ (⟨t436, t438⟩ : S56) )) (Reps.none _ _))); intro v441 w5 ho6 hb hg_ hnew_; clear hg_ hnew_; (first | rw [← Ny440.out] at ho6 | (simp only [Int.reduceToNat] at ho6; rw [← Ny440.out] at ho6)); have HO442 := rl_ ho6; replace HB := hb_ hb; clear hb ho6))
 go_ret
 exact ⟨_, by first | rfl | (simp [errW_none, errW_some] <;> rfl) | (simp [*, errW_none, errW_some] <;> rfl), by (with_reducible repeat (first | apply Kd.R_alloc | apply Kd.R_drewN | apply Kd.R_drew)); exact HO442.out, bel_⟩
def cambiumlaw14_lives.f (k : Nat)  : Option (Bool) := (dirs_New.f k).bind fun t443 => ((dirs_Get.f k t443 1).bind fun bt446 => ((dirs_Walk.f k t443 ([] : List ByteArray) true).bind fun bt453 => ((dirs_Walk.f k t443 (([(⟨#[97]⟩ : ByteArray)] : List ByteArray)) true).bind fun bt458 => ((dirs_List.f k t443 1).bind fun bt460 => ((dirs_Next.f k t443).bind fun bt464 => (if (t443.length : Int) = 1 then ((dirs_Check.f k t443).bind fun t466 => (if t466 = 0 then (if bt446.1 = 1 then (if bt446.2.2.2.2.2 = 0 then (if bt453.1 = 1 then (if bt453.2 = 0 then (if bt458.2 = 5 then (if (bt460.1.length : Int) = 0 then (if bt460.2 = 0 then (if bt464.1 = 2 then (if bt464.2 = 0 then ((dirs_Check.f k ([] : List (S56))).bind fun t467 => (some (t467 == 9))) else (some false)) else (some false)) else (some false)) else (some false)) else (some false)) else (some false)) else (some false)) else (some false)) else (some false)) else (some false))) else (some false)))))))
theorem cambiumlaw14_lives.mono : ∀ k, LeO (cambiumlaw14_lives.f k ) (cambiumlaw14_lives.f (k + 1) ) := by
 intro  k
 unfold cambiumlaw14_lives.f
 repeat' (first | (with_reducible first | exact dirs_Check.mono _ _ | exact dirs_Get.mono _ _ _ | exact dirs_List.mono _ _ _ | exact dirs_New.mono _ | exact dirs_Next.mono _ _ | exact dirs_Walk.mono _ _ _ _ | exact LeO.refl _ | exact LeO.none _ | refine LeO.ite ?_ ?_ | refine LeO.bind ?_ (fun _ => ?_)))
set_option maxHeartbeats 8000000 in
set_option maxRecDepth 100000 in
theorem cambiumlaw14_lives.calls (k : Nat)  (r : Bool) (w : World) (h : cambiumlaw14_lives.f k  = some r) (hT_ : r = true := by rfl) :
  Calls Tryz.prog 12 #[] w fun e w' => e = .returned (.bool r) ∧ Below w.heap.size w w' := by
 have HT_ := ak_ hT_
 clear hT_
 have hu31 := Tryz.underlying31
 have HB := ak_ (Below.refl w.heap.size w)
 have H : ((dirs_New.f k).bind fun t443 => ((dirs_Get.f k t443 1).bind fun bt446 => ((dirs_Walk.f k t443 ([] : List ByteArray) true).bind fun bt453 => ((dirs_Walk.f k t443 (([(⟨#[97]⟩ : ByteArray)] : List ByteArray)) true).bind fun bt458 => ((dirs_List.f k t443 1).bind fun bt460 => ((dirs_Next.f k t443).bind fun bt464 => (if (t443.length : Int) = 1 then ((dirs_Check.f k t443).bind fun t466 => (if t466 = 0 then (if bt446.1 = 1 then (if bt446.2.2.2.2.2 = 0 then (if bt453.1 = 1 then (if bt453.2 = 0 then (if bt458.2 = 5 then (if (bt460.1.length : Int) = 0 then (if bt460.2 = 0 then (if bt464.1 = 2 then (if bt464.2 = 0 then ((dirs_Check.f k ([] : List (S56))).bind fun t467 => (some (t467 == 9))) else (some false)) else (some false)) else (some false)) else (some false)) else (some false)) else (some false)) else (some false)) else (some false)) else (some false)) else (some false))) else (some false)))))))) = some r := h
 clear h
 replace H := Option.bind_eq_some_iff.mp H
 obtain ⟨t443, A10, H⟩ := H
 try dsimp only at H
 have A1 := ak_ A10
 clear A10
 replace H := Option.bind_eq_some_iff.mp H
 obtain ⟨⟨t446, t447, t448, t449, t450, t451⟩, A20, H⟩ := H
 try dsimp only at H
 have A2 := ak_ A20
 clear A20
 replace H := Option.bind_eq_some_iff.mp H
 obtain ⟨⟨t453, t454⟩, A30, H⟩ := H
 try dsimp only at H
 have A3 := ak_ A30
 clear A30
 obtain ⟨y455, hy455⟩ : ∃ y_ : List ByteArray, y_ = (([(⟨#[97]⟩ : ByteArray)] : List ByteArray)) := ⟨_, rfl⟩
 replace H : ((dirs_Walk.f k t443 y455 true).bind fun bt458 => ((dirs_List.f k t443 1).bind fun bt460 => ((dirs_Next.f k t443).bind fun bt464 => (if (t443.length : Int) = 1 then ((dirs_Check.f k t443).bind fun t466 => (if t466 = 0 then (if t446 = 1 then (if t451 = 0 then (if t453 = 1 then (if t454 = 0 then (if bt458.2 = 5 then (if (bt460.1.length : Int) = 0 then (if bt460.2 = 0 then (if bt464.1 = 2 then (if bt464.2 = 0 then ((dirs_Check.f k ([] : List (S56))).bind fun t467 => (some (t467 == 9))) else (some false)) else (some false)) else (some false)) else (some false)) else (some false)) else (some false)) else (some false)) else (some false)) else (some false)) else (some false))) else (some false))))) = some r := by first | (rw [hy455]; with_reducible exact H) | (have H2_ := (Option.bind_some _ _).symm.trans H; rw [hy455]; with_reducible exact H2_) | (have H2_ := (Option.bind_some _ _).symm.trans H; with_reducible exact H2_) | with_reducible exact H | (rw [hy455]; exact H) | exact H
 have Ny455 := ak_ hy455
 clear hy455
 replace H := Option.bind_eq_some_iff.mp H
 obtain ⟨⟨t458, t459⟩, A40, H⟩ := H
 try dsimp only at H
 have A4 := ak_ A40
 clear A40
 replace H := Option.bind_eq_some_iff.mp H
 obtain ⟨⟨t460, t461⟩, A50, H⟩ := H
 try dsimp only at H
 have A5 := ak_ A50
 clear A50
 replace H := Option.bind_eq_some_iff.mp H
 obtain ⟨⟨t464, t465⟩, A60, H⟩ := H
 try dsimp only at H
 have A6 := ak_ A60
 clear A60
 by_cases c7 : (t443.length : Int) = 1
 ·rw [if_pos c7] at H
  have c7b0 : ((t443.length : Int) == 1) = true := beq_iff_eq.mpr c7
  have c7b1 : ((t443.length : Int) != 1) = false := bne_eq_false_iff_eq.mpr c7
  clear c7
  replace H := Option.bind_eq_some_iff.mp H
  obtain ⟨t466, A80, H⟩ := H
  try dsimp only at H
  have A8 := ak_ A80
  clear A80
  by_cases c9 : t466 = 0
  ·rw [if_pos c9] at H
   have c9b0 : (t466 == 0) = true := beq_iff_eq.mpr c9
   have c9b1 : (t466 != 0) = false := bne_eq_false_iff_eq.mpr c9
   clear c9
   by_cases c10 : t446 = 1
   ·rw [if_pos c10] at H
    have c10b0 : (t446 == 1) = true := beq_iff_eq.mpr c10
    have c10b1 : (t446 != 1) = false := bne_eq_false_iff_eq.mpr c10
    clear c10
    by_cases c11 : t451 = 0
    ·rw [if_pos c11] at H
     have c11b0 : (t451 == 0) = true := beq_iff_eq.mpr c11
     have c11b1 : (t451 != 0) = false := bne_eq_false_iff_eq.mpr c11
     clear c11
     by_cases c12 : t453 = 1
     ·rw [if_pos c12] at H
      have c12b0 : (t453 == 1) = true := beq_iff_eq.mpr c12
      have c12b1 : (t453 != 1) = false := bne_eq_false_iff_eq.mpr c12
      clear c12
      by_cases c13 : t454 = 0
      ·rw [if_pos c13] at H
       have c13b0 : (t454 == 0) = true := beq_iff_eq.mpr c13
       have c13b1 : (t454 != 0) = false := bne_eq_false_iff_eq.mpr c13
       clear c13
       by_cases c14 : t459 = 5
       ·rw [if_pos c14] at H
        have c14b0 : (t459 == 5) = true := beq_iff_eq.mpr c14
        have c14b1 : (t459 != 5) = false := bne_eq_false_iff_eq.mpr c14
        clear c14
        by_cases c15 : (t460.length : Int) = 0
        ·rw [if_pos c15] at H
         have c15b0 : ((t460.length : Int) == 0) = true := beq_iff_eq.mpr c15
         have c15b1 : ((t460.length : Int) != 0) = false := bne_eq_false_iff_eq.mpr c15
         clear c15
         by_cases c16 : t461 = 0
         ·rw [if_pos c16] at H
          have c16b0 : (t461 == 0) = true := beq_iff_eq.mpr c16
          have c16b1 : (t461 != 0) = false := bne_eq_false_iff_eq.mpr c16
          clear c16
          by_cases c17 : t464 = 2
          ·rw [if_pos c17] at H
           have c17b0 : (t464 == 2) = true := beq_iff_eq.mpr c17
           have c17b1 : (t464 != 2) = false := bne_eq_false_iff_eq.mpr c17
           clear c17
           by_cases c18 : t465 = 0
           ·rw [if_pos c18] at H
            have c18b0 : (t465 == 0) = true := beq_iff_eq.mpr c18
            have c18b1 : (t465 != 0) = false := bne_eq_false_iff_eq.mpr c18
            clear c18
            replace H := Option.bind_eq_some_iff.mp H
            obtain ⟨t467, A190, H⟩ := H
            try dsimp only at H
            have A19 := ak_ A190
            clear A190
            obtain rfl := Option.some.inj H
            go_enter Tryz.func12, Tryz.ntmps12
            go_wp2_with (first | ((with_reducible refine gate_callee (f := 16) rfl ?_); refine gl_ (some 12) Tryz.func16 #[] ?_; (with_reducible refine (dirs_New.calls k  t443 _ A1.out).mono ?_); rintro e w20 ⟨v444, rfl, ho0, hb⟩; refine ⟨_, rfl, ?_⟩; have HO445 := rl_ ho0; replace HB := hb_ hb; (try clear hb); (try clear ho0); obtain ⟨Ao21, co21, eo21⟩ := Kd.R_slice HO445.out; subst eo21) | ((with_reducible refine gate_callee (f := 6) rfl ?_); refine gl_ (some 15) Tryz.func6 #[.slice Ao21 t443.length co21, .int .u32 1] ?_; (with_reducible refine (dirs_Get.calls k _ _ t443 1 t446 t447 t448 t449 t450 t451 _ ?side1 ?side2 A2.out).mono ?_); (case side1 => exact cr_ HO445); (case side2 => exact (Kd.R_reads' HO445.out).2.1); rintro e w22 ⟨rfl, hb⟩; refine ⟨_, rfl, ?_⟩; replace HO445 := rb_ HO445 hb; replace HB := hb_ hb; (try clear hb)) | ((with_reducible refine gate_dst (N := 2) rfl ?_); (try (refine gate_guard (by rfl) ?_; dsimp only)); refine bx_ (N := 2) (cs := #[.int .u8 0, .int .u16 0, .int .u32 0, .int .u32 0, .string (⟨#[]⟩ : ByteArray)]) (t := 31) ?_; intro gb452 hg w23 hbox hb; have BK452 := ak_ (hbox); have GW452 := ge_ hg; have GE452 := ge_ hg; replace HO445 := rb_ HO445 hb; replace HB := hb_ hb; clear hb hbox hg; obtain ⟨hcz24_0, hcz24_1, hcz24_2, hcz24_3, hcz24_4⟩ := cl5_ BK452; obtain ⟨hfz24_0, hfz24_1, hfz24_2, hfz24_3, hfz24_4⟩ := fz5_ BK452) | ((with_reducible refine gate_callee (f := 4) rfl ?_); refine gl_ (some 20) Tryz.func4 #[.slice Ao21 t443.length co21, .slice none 0 0, .bool true] ?_; (refine (dirs_Walk.calls k _ _ t443 _ _ ([] : List ByteArray) true t453 t454 _ ?side1 ?side2 ?side3 ?side4 A3.out).mono ?_); (case side1 => exact (Kd.R_reads' (rw_ HO445)).2.2); (case side2 => exact (Kd.R_reads' HO445.out).2.1); (case side3 => exact Kd.C_nil _ _); (case side4 => exact Nat.le_refl _); rintro e w25 ⟨rfl, hb⟩; refine ⟨_, rfl, ?_⟩; replace HO445 := ak_ (Kd.R_below (rw_ HO445) hb); replace HB := hb_ hb; replace BK452 := ak_ (blk_below (g := gb452) (o := .cells #[.int .u8 t446, .int .u16 t447, .int .u32 t448, .int .u32 t449, .string t450] 31 (0, 0)) (bs_) hb); (try clear hb)) | ((with_reducible refine gate_dst (N := 25) rfl ?_); (try (refine gate_guard (by rfl) ?_; dsimp only)); refine Kd.R_lit Kd.string _ 9 ?hg (N := 25) ?hd (xs := ([(⟨#[97]⟩ : ByteArray)] : List ByteArray)) (inner := [.string (⟨#[97]⟩ : ByteArray)]) (ok := fun _ => True) (okp := fun _ => True) ?hr ?hp (fun _ hk => hk) trivial (Below.refl _ _) (Nat.le_refl _) (by simp) ?_; (case hd => rfl); (case hg => rfl); (case hr => first | (go_simp; done) | (go_simp; rfl)); (case hp => exact (Reps.one (show Kd.M Kd.string _ _ _ (⟨#[97]⟩ : ByteArray) [.string (⟨#[97]⟩ : ByteArray)] from rfl) (Reps.none _ _))); intro v456 w26 ho27 hb hg_ hnew_; clear hg_ hnew_; (first | rw [← Ny455.out] at ho27 | (simp only [Int.reduceToNat] at ho27; rw [← Ny455.out] at ho27)); have HO457 := rl_ ho27; replace HO445 := rb_ HO445 hb; replace BK452 := kb_ BK452 hb; replace HB := hb_ hb; clear hb ho27; obtain ⟨Ao28, co28, eo28⟩ := Kd.R_slice HO457.out; subst eo28) | ((with_reducible refine gate_callee (f := 4) rfl ?_); refine gl_ (some 26) Tryz.func4 #[.slice Ao21 t443.length co21, .slice Ao28 y455.length co28, .bool true] ?_; (with_reducible refine (dirs_Walk.calls k _ _ t443 _ _ y455 true t458 t459 _ ?side1 ?side2 ?side3 ?side4 A4.out).mono ?_); (case side1 => exact cr_ HO445); (case side2 => exact (Kd.R_reads' HO445.out).2.1); (case side3 => exact cr_ HO457); (case side4 => exact (Kd.R_reads' HO457.out).2.1); rintro e w29 ⟨rfl, hb⟩; refine ⟨_, rfl, ?_⟩; replace HO445 := rb_ HO445 hb; replace HO457 := rb_ HO457 hb; replace BK452 := kb_ BK452 hb; replace HB := hb_ hb; (try clear hb)) | ((with_reducible refine gate_callee (f := 8) rfl ?_); refine gl_ (some 31) Tryz.func8 #[.slice Ao21 t443.length co21, .int .u32 1] ?_; (with_reducible refine (dirs_List.calls k _ _ t443 1 t460 t461 _ ?side1 ?side2 A5.out).mono ?_); (case side1 => exact cr_ HO445); (case side2 => exact (Kd.R_reads' HO445.out).2.1); rintro e w30 ⟨v462, rfl, ho0, hb⟩; refine ⟨_, rfl, ?_⟩; have HO463 := rl_ ho0; replace HO445 := rb_ HO445 hb; replace HO457 := rb_ HO457 hb; replace BK452 := kb_ BK452 hb; replace HB := hb_ hb; (try clear hb); (try clear ho0)) | ((with_reducible refine gate_callee (f := 10) rfl ?_); refine gl_ (some 36) Tryz.func10 #[.slice Ao21 t443.length co21] ?_; (with_reducible refine (dirs_Next.calls k _ _ t443 t464 t465 _ ?side1 ?side2 A6.out).mono ?_); (case side1 => exact cr_ HO445); (case side2 => exact (Kd.R_reads' HO445.out).2.1); rintro e w31 ⟨rfl, hb⟩; refine ⟨_, rfl, ?_⟩; replace HO445 := rb_ HO445 hb; replace HO457 := rb_ HO457 hb; replace HO463 := rb_ HO463 hb; replace BK452 := kb_ BK452 hb; replace HB := hb_ hb; (try clear hb)) | (go_at_call 13; (with_reducible refine (dirs_Check.calls k _ _ t443 t466 _ ?side1 ?side2 A8.out).mono ?_); (case side1 => exact cr_ HO445); (case side2 => exact (Kd.R_reads' HO445.out).2.1); rintro e w32 ⟨rfl, hb⟩; replace HO445 := rb_ HO445 hb; replace HO457 := rb_ HO457 hb; replace HO463 := rb_ HO463 hb; replace BK452 := kb_ BK452 hb; replace HB := hb_ hb; (try clear hb); obtain ⟨hcz33_0, hcz33_1, hcz33_2, hcz33_3, hcz33_4⟩ := cl5_ BK452; obtain ⟨hfz33_0, hfz33_1, hfz33_2, hfz33_3, hfz33_4⟩ := fz5_ BK452; obtain ⟨Ao34, co34, eo34⟩ := Kd.R_slice HO463.out; subst eo34) | (go_at_call 13; (refine (dirs_Check.calls k _ _ ([] : List (S56)) t467 _ ?side1 ?side2 A19.out).mono ?_); (case side1 => exact Kd.C_nil _ _); (case side2 => exact Nat.le_refl _); rintro e w35 ⟨rfl, hb⟩; replace HO445 := rb_ HO445 hb; replace HO457 := rb_ HO457 hb; replace HO463 := rb_ HO463 hb; replace BK452 := kb_ BK452 hb; replace HB := hb_ hb; (try clear hb)))
            go_ret
            exact ⟨by first | rfl | (simp [errW_none, errW_some] <;> rfl) | (simp [*, errW_none, errW_some] <;> rfl), bel_⟩
           rw [if_neg c18] at H
           have c18b0 : (t465 == 0) = false := beq_eq_false_iff_ne.mpr c18
           have c18b1 : (t465 != 0) = true := bne_iff_ne.mpr c18
           exact absurd ((Option.some.inj H).trans HT_.out) (by simp)
          rw [if_neg c17] at H
          have c17b0 : (t464 == 2) = false := beq_eq_false_iff_ne.mpr c17
          have c17b1 : (t464 != 2) = true := bne_iff_ne.mpr c17
          exact absurd ((Option.some.inj H).trans HT_.out) (by simp)
         rw [if_neg c16] at H
         have c16b0 : (t461 == 0) = false := beq_eq_false_iff_ne.mpr c16
         have c16b1 : (t461 != 0) = true := bne_iff_ne.mpr c16
         exact absurd ((Option.some.inj H).trans HT_.out) (by simp)
        rw [if_neg c15] at H
        have c15b0 : ((t460.length : Int) == 0) = false := beq_eq_false_iff_ne.mpr c15
        have c15b1 : ((t460.length : Int) != 0) = true := bne_iff_ne.mpr c15
        have c15b2 : ¬ (t460 = []) := fun h_ => c15 (by rw [h_]; rfl)
        exact absurd ((Option.some.inj H).trans HT_.out) (by simp)
       rw [if_neg c14] at H
       have c14b0 : (t459 == 5) = false := beq_eq_false_iff_ne.mpr c14
       have c14b1 : (t459 != 5) = true := bne_iff_ne.mpr c14
       exact absurd ((Option.some.inj H).trans HT_.out) (by simp)
      rw [if_neg c13] at H
      have c13b0 : (t454 == 0) = false := beq_eq_false_iff_ne.mpr c13
      have c13b1 : (t454 != 0) = true := bne_iff_ne.mpr c13
      exact absurd ((Option.some.inj H).trans HT_.out) (by simp)
     rw [if_neg c12] at H
     have c12b0 : (t453 == 1) = false := beq_eq_false_iff_ne.mpr c12
     have c12b1 : (t453 != 1) = true := bne_iff_ne.mpr c12
     exact absurd ((Option.some.inj H).trans HT_.out) (by simp)
    rw [if_neg c11] at H
    have c11b0 : (t451 == 0) = false := beq_eq_false_iff_ne.mpr c11
    have c11b1 : (t451 != 0) = true := bne_iff_ne.mpr c11
    exact absurd ((Option.some.inj H).trans HT_.out) (by simp)
   rw [if_neg c10] at H
   have c10b0 : (t446 == 1) = false := beq_eq_false_iff_ne.mpr c10
   have c10b1 : (t446 != 1) = true := bne_iff_ne.mpr c10
   exact absurd ((Option.some.inj H).trans HT_.out) (by simp)
  rw [if_neg c9] at H
  have c9b0 : (t466 == 0) = false := beq_eq_false_iff_ne.mpr c9
  have c9b1 : (t466 != 0) = true := bne_iff_ne.mpr c9
  exact absurd ((Option.some.inj H).trans HT_.out) (by simp)
 rw [if_neg c7] at H
 have c7b0 : ((t443.length : Int) == 1) = false := beq_eq_false_iff_ne.mpr c7
 have c7b1 : ((t443.length : Int) != 1) = true := bne_iff_ne.mpr c7
 exact absurd ((Option.some.inj H).trans HT_.out) (by simp)
end Go.Proofs.YtpnmajblhgnkoaaGreat.Z
end

section
namespace Go.Proofs.YtpnmajblhgnkoaaGreat.Z
open Go.Proofs.YtpnmajblhgnkoaaGreat.PM
theorem pigeon : ∀ (n : Nat) (m : List Int), m.length ≤ n → ∃ j : Nat, j ≤ n ∧ (j : Int) ∉ m
  | 0, m, h => ⟨0, Nat.le_refl _, by rw [List.length_eq_zero_iff.1 (Nat.le_zero.1 h)]; simp⟩
  | n + 1, m, h => by
    by_cases hm : ((n + 1 : Nat) : Int) ∈ m
    · have hlt : (m.filter (fun x => x != ((n + 1 : Nat) : Int))).length < m.length := by
        refine Nat.lt_of_le_of_ne (List.length_filter_le ..) (fun he => ?_)
        have := List.length_filter_eq_length_iff.1 he _ hm
        simp at this
      obtain ⟨j, hj, hn⟩ := pigeon n (m.filter (fun x => x != ((n + 1 : Nat) : Int))) (by omega)
      refine ⟨j, by omega, fun hj' => hn (List.mem_filter.2 ⟨hj', ?_⟩)⟩
      simp
      omega
    · exact ⟨n + 1, Nat.le_refl _, hm⟩
def newI : It := ⟨ba (keyL 1 1 [] 0), ba (enc 1 0 1 0 [])⟩
theorem New_f : Ev (fun k => dirs_New.f k) [newI] := by
  unfold dirs_New.f
  refine Ev.bind (key_f 1 1 ⟨#[]⟩ 0 (by decide) ⟨by decide, by decide⟩ (by decide)) ?_
  refine Ev.bind (encode_f 1 0 1 0 ⟨#[]⟩ ⟨by decide, by decide⟩ ⟨by decide, by decide⟩ ⟨by decide, by decide⟩ ⟨by decide, by decide⟩) ?_
  exact Ev.const rfl
theorem new_ok : okL [newI] = true := by
  rw [okL_iff]
  refine ⟨fun x hx => ?_, by unfold Asc; simp⟩
  rw [List.mem_singleton.1 hx]
  unfold okI okK
  rw [ByteArray.toList_eq]
  decide
theorem new_look : lookS [newI] = some (addS VS0 newI) := by
  unfold lookS
  rw [show parseS [newI] VS0 = some (addS VS0 newI) by kernel_rfl]
  exact if_pos ⟨new_ok, by kernel_rfl, by kernel_rfl, by kernel_rfl⟩
theorem new_fit : Fit [newI] := fun x hx => by rw [List.mem_singleton.1 hx]; exact ⟨by decide, by decide⟩
theorem new_ino (a : Int) : (addS VS0 newI).ino a = if a = 1 then some ⟨1, 0, 1, 0, ⟨#[]⟩⟩ else none := by
  show (if a = (keptS newI).f1 then some (inoS newI.f1) else none) = _
  rw [show (keptS newI).f1 = 1 by kernel_rfl, show inoS newI.f1 = ⟨1, 0, 1, 0, ⟨#[]⟩⟩ by kernel_rfl]
theorem new_entry : entryS [newI] 1 ⟨#[97]⟩ = 0 := by
  unfold entryS
  rw [look_none (fun x hx => ?_)]
  · kernel_rfl
  · rw [List.mem_singleton.1 hx]
    show newI.f0.toList ≠ _
    rw [ByteArray.toList_eq]
    decide
theorem lives_f : Ev (fun k => cambiumlaw14_lives.f k) true := by
  unfold cambiumlaw14_lives.f
  have h1 : ([newI] : List It).length ≤ 4398046511103 := by decide
  have hw : ∀ ns, walkR [newI] ns true = walkS [newI] (addS VS0 newI) true 8 ns 1 := fun ns => by unfold walkR; rw [new_look]
  refine Ev.bind New_f (Ev.bind (Get_f new_fit h1 ⟨by decide, by decide⟩) (Ev.bind (Walk_f new_fit h1 [] (by decide) true) (Ev.bind (Walk_f new_fit h1 [⟨#[97]⟩] (by decide) true) (Ev.bind (List_f new_fit h1 ⟨by decide, by decide⟩) ?_))))
  have hn : Ev (fun k => dirs_Next.f k [newI]) (2, 0) := by
    unfold dirs_Next.f
    refine Ev.bind (look_f _ new_fit h1) ?_
    rw [new_look]
    refine Ev.bind (a := 2) ?_ (Ev.const rfl)
    refine Ev.step (fun k => by rw [nextL]) (Ev.ifn (by rw [new_ino]; decide) (Ev.const rfl))
  have e1 : walkS [newI] (addS VS0 newI) true 8 [] 1 = (1, 0) := rfl
  have e2 : walkS [newI] (addS VS0 newI) true 8 [⟨#[97]⟩] 1 = (0, 5) := by
    show goS _ _ _ _ _ _ = _
    rw [goS, if_pos (by show ((( addS VS0 newI).ino 1).getD zI).kd = 1; rw [new_ino]; rfl), new_entry, if_pos rfl]
  have e3 : getR (lookS [newI]) 1 = (1, 0, 1, 0, ⟨#[]⟩, 0) := by
    rw [new_look]
    unfold getR
    simp only [new_ino]
    rfl
  have e4 : listR (lookS [newI]) 1 = ([], 0) := by
    rw [new_look]
    unfold listR
    simp only [new_ino]
    rw [show listS (addS VS0 newI) 1 = [] by kernel_rfl]
    rfl
  refine Ev.bind hn ?_
  rw [hw, hw, e1, e2, e3, e4]
  refine Ev.ifp rfl ?_
  refine Ev.bind (Check_f new_fit h1) ?_
  rw [new_look]
  refine Ev.ifp rfl (Ev.ifp rfl (Ev.ifp rfl (Ev.ifp rfl (Ev.ifp rfl (Ev.ifp rfl (Ev.ifp rfl (Ev.ifp rfl (Ev.ifp rfl (Ev.ifp rfl ?_)))))))))
  refine Ev.bind (Check_f (l := []) (fun x hx => by cases hx) (by decide)) ?_
  rw [show lookS [] = none by unfold lookS; rw [show parseS [] VS0 = some VS0 from rfl]; exact if_neg (fun h => absurd h.2.1 (by decide))]
  exact Ev.const rfl
theorem wf32 {n : Int} (h : (Lit.int .u32 n).wf = true) : 0 ≤ n ∧ n < 4294967296 := by
  have := (Lit.wf_int_iff .u32 n).1 h
  simp only [IntKind.min, IntKind.max, IntKind.signed, IntKind.bits] at this
  simp at this
  omega
end Go.Proofs.YtpnmajblhgnkoaaGreat.Z
end

section
namespace Go.Proofs.YtpnmajblhgnkoaaGreat.Z
open Go.Proofs.YtpnmajblhgnkoaaGreat.PM
def nxt (up : Int → Option (Int × Int)) (i : Int) : Int := ((up i).getD (0, 0)).2
def Rc (up : Int → Option (Int × Int)) : Nat → Int → Prop
  | 0, i => i = 1
  | t + 1, i => i ≠ 1 ∧ Rc up t (nxt up i)
theorem rc_one (up : Int → Option (Int × Int)) : ∀ (t u : Nat) (i : Int), Rc up t i → Rc up u i → t = u
  | 0, 0, _, _, _ => rfl
  | 0, u + 1, i, h, h2 => absurd h h2.1
  | t + 1, 0, i, h, h2 => absurd h2 h.1
  | t + 1, u + 1, i, h, h2 => congrArg (· + 1) (rc_one up t u _ h.2 h2.2)
theorem rooted_iff (up : Int → Option (Int × Int)) : ∀ (m : Nat) (i : Int), rootedL up m i = true ↔ ∃ t, t ≤ m ∧ Rc up t i
  | 0, i => by
    rw [rootedL, beq_iff_eq]
    exact ⟨fun h => ⟨0, Nat.le_refl _, h⟩, fun ⟨t, ht, h⟩ => by rw [Nat.le_zero.1 ht] at h; exact h⟩
  | m + 1, i => by
    rw [rootedL]
    by_cases h1 : i = 1
    · rw [if_pos h1]
      exact ⟨fun _ => ⟨0, Nat.zero_le _, h1⟩, fun _ => rfl⟩
    · rw [if_neg h1]
      refine (rooted_iff up m _).trans ⟨fun ⟨t, ht, h⟩ => ⟨t + 1, Nat.succ_le_succ ht, h1, h⟩, fun ⟨t, ht, h⟩ => ?_⟩
      cases t with
      | zero => exact absurd h h1
      | succ t => exact ⟨t, Nat.le_of_succ_le_succ ht, h.2⟩
def nodes (up : Int → Option (Int × Int)) : Nat → Int → List Int
  | 0, _ => []
  | t + 1, i => i :: nodes up t (nxt up i)
theorem nodes_len (up : Int → Option (Int × Int)) : ∀ (t : Nat) (i : Int), (nodes up t i).length = t
  | 0, _ => rfl
  | t + 1, i => congrArg (· + 1) (nodes_len up t _)
theorem nodes_rc (up : Int → Option (Int × Int)) : ∀ (t : Nat) (i j : Int), Rc up t i → j ∈ nodes up t i → ∃ u, u < t ∧ Rc up (u + 1) j
  | 0, _, _, _, h => by cases h
  | t + 1, i, j, hr, h => by
    rcases List.mem_cons.1 h with rfl | h
    · exact ⟨t, Nat.lt_succ_self t, hr⟩
    · obtain ⟨u, hu, hj⟩ := nodes_rc up t _ j hr.2 h
      exact ⟨u, Nat.lt_succ_of_lt hu, hj⟩
theorem nodes_nodup (up : Int → Option (Int × Int)) : ∀ (t : Nat) (i : Int), Rc up t i → (nodes up t i).Nodup
  | 0, _, _ => List.nodup_nil
  | t + 1, i, h => by
    refine List.nodup_cons.2 ⟨fun hm => ?_, nodes_nodup up t _ h.2⟩
    obtain ⟨u, hu, hj⟩ := nodes_rc up t _ i h.2 hm
    have := rc_one up _ _ _ h hj
    omega
theorem nodup_le : ∀ (L M : List Int), L.Nodup → (∀ x ∈ L, x ∈ M) → L.length ≤ M.length
  | [], M, _, _ => Nat.zero_le _
  | x :: r, M, hn, hs => by
    have hc := List.nodup_cons.1 hn
    have hx := hs x (List.mem_cons_self ..)
    have := nodup_le r (M.erase x) hc.2 (fun y hy => (List.mem_erase_of_ne (fun e : y = x => hc.1 (by rw [← e]; exact hy))).2 (hs y (List.mem_cons_of_mem _ hy)))
    rw [List.length_erase_of_mem hx] at this
    have hp := List.length_pos_of_mem hx
    rw [List.length_cons]
    omega
theorem rooted_small (up : Int → Option (Int × Int)) (M : List Int) (n : Nat) (hM : ∀ t j, Rc up (t + 1) j → j ∈ M) (hn : M.length ≤ n) (m : Nat) (hm : n ≤ m) (i : Int) : rootedL up m i = rootedL up n i := by
  rw [Bool.eq_iff_iff, rooted_iff, rooted_iff]
  refine ⟨fun ⟨t, ht, h⟩ => ⟨t, ?_, h⟩, fun ⟨t, ht, h⟩ => ⟨t, by omega, h⟩⟩
  have := nodup_le _ M (nodes_nodup up t i h) (fun x hx => by
    obtain ⟨u, _, hu⟩ := nodes_rc up t i x h hx
    exact hM u x hu)
  rw [nodes_len] at this
  omega
theorem rooted_ext (up up' : Int → Option (Int × Int)) (h : ∀ i, (up i).getD (0, 0) = (up' i).getD (0, 0)) : ∀ (m : Nat) (i : Int), rootedL up m i = rootedL up' m i
  | 0, i => rfl
  | m + 1, i => by
    rw [rootedL, rootedL, h, rooted_ext up up' h m]
theorem parseS_some : ∀ (l : List It) (s : VS), (∀ x ∈ l, okP x = true) → ∃ s', parseS l s = some s'
  | [], s, _ => ⟨s, rfl⟩
  | x :: r, s, h => by
    rw [parseS, if_pos (h x (List.mem_cons_self ..))]
    exact parseS_some r _ (fun y hy => h y (List.mem_cons_of_mem _ hy))
theorem addS_up (s : VS) (x : It) (a : Int) : ((addS s x).up a).getD (0, 0) = upT a ((s.up a).getD (0, 0)) x := by
  unfold addS upT
  by_cases h1 : (keptS x).f0 = 1
  · rw [if_pos h1, if_neg (fun h => by omega)]; rfl
  · rw [if_neg h1]
    by_cases h2 : (keptS x).f0 = 2
    · rw [if_pos h2]
      show ((if a = numS x.f1 then some (wrap64 (((s.up (numS x.f1)).getD (0, 0)).1 + 1), (keptS x).f1) else s.up a)).getD (0, 0) = _
      by_cases ha : a = numS x.f1
      · subst ha
        rw [if_pos rfl, if_pos ⟨h2, rfl⟩]; rfl
      · rw [if_neg ha, if_neg (fun h => ha h.2.symm)]
    · rw [if_neg h2, if_neg (fun h => h2 h.1)]; rfl
theorem parseS_up : ∀ (l : List It) (s s' : VS), parseS l s = some s' → ∀ a, (s'.up a).getD (0, 0) = l.foldl (upT a) ((s.up a).getD (0, 0))
  | [], s, s', h, a => by rw [← Option.some.inj h]; rfl
  | x :: r, s, s', h, a => by
    rw [parseS] at h
    by_cases hx : okP x = true
    · rw [if_pos hx] at h
      rw [parseS_up r _ _ h a, addS_up]; rfl
    · rw [if_neg hx] at h; cases h
theorem key1 {x : It} (hp : pe x = 0) (h1 : (keptS x).f0 = 1) : key x = keyL 1 (keptS x).f1 [] 0 ∧ rightK 1 (keptS x).f1 [] 0 = true := by
  obtain ⟨hr, hk, hi, h3⟩ := pe_key hp
  rw [h1] at hr hk
  have h0 := hr
  unfold rightK at h0
  have h0 := (of_decide_eq_true h0).2
  have hn : (keptS x).f2.data.toList = [] ∧ (keptS x).f3 = 0 := by
    rcases h0 with h0 | h0 | h0
    · exact h0.2
    · exact absurd h0.1 (by decide)
    · exact absurd h0.1 (by decide)
  rw [hn.1, hn.2] at hr hk
  exact ⟨by show x.f0.toList = _; rw [ByteArray.toList_eq, ← hk], hr⟩
theorem okP_pe {x : It} (h : okP x = true) : pe x = 0 := by
  unfold okP at h
  rw [Bool.and_eq_true] at h
  exact eq_of_beq h.1
theorem inR_item {l : List It} (ha : Asc l) {x : It} (hx : x ∈ l) (hp : pe x = 0) (h1 : (keptS x).f0 = 1) : inR l (keptS x).f1 = decO x.f1 := by
  obtain ⟨hk, hr⟩ := key1 hp h1
  unfold inR
  rw [if_pos hr, ← hk, look_mem ha hx]; rfl
theorem ino_eq {l : List It} {s : VS} (hi : Inv l s) (hok : okL l = true) {a : Int} (ha : 0 ≤ a ∧ a < 4294967296) : s.ino a = inR l a := by
  have hasc := ((okL_iff l).1 hok).2
  have fwd : ∀ n, s.ino a = some n → inR l a = some n := fun n hn => by
    obtain ⟨x, hx, h1, rfl, e⟩ := hi.src a n hn
    have hp := hi.ok x hx
    rw [inR_item hasc hx (okP_pe hp) h1]
    unfold okP at hp
    rw [Bool.and_eq_true, h1] at hp
    have hd : (decS x.f1.data.toList).2.2.2.2.2 = 0 := by
      have := hp.2
      simp at this
      exact this
    unfold decO
    rw [if_pos hd, e]
  cases hs : s.ino a with
  | some n => exact (fwd n hs).symm
  | none =>
    cases hn : inR l a with
    | none => rfl
    | some n =>
      unfold inR at hn
      by_cases hr : rightK 1 a [] 0 = true
      · rw [if_pos hr] at hn
        cases hv : look l (keyL 1 a [] 0) with
        | none => rw [hv] at hn; cases hn
        | some v =>
          obtain ⟨x, hx, hk, rfl⟩ := mem_of_look hv
          have hk' : x.f0.data.toList = keyL 1 a [] 0 := by rw [← ByteArray.toList_eq]; exact hk
          have hp := pars_key hr ha (by decide : (0 : Int) ≤ 0)
          rw [← hk'] at hp
          have h1 : (keptS x).f0 = 1 := by show (parsS x.f0.data.toList).1 = 1; rw [hp]
          have h2 : (keptS x).f1 = a := by show (parsS x.f0.data.toList).2.1 = a; rw [hp]
          have := hi.has x hx h1
          rw [h2, hs] at this
          cases this
      · rw [if_neg hr] at hn; cases hn
def upF (l : List It) : Int → Option (Int × Int) := fun a => some (upS l a)
def lkR (l : List It) (n : Nat) (x : It) : Bool :=
  if (keptS x).f0 = 1 ∧ ¬ (keptS x).f1 = 1 then
    (if IntKind.u64.wrap (upS l (keptS x).f1).1 = IntKind.u64.wrap ((inR l (keptS x).f1).getD zI).ln then
      (if ((inR l (keptS x).f1).getD zI).kd = 1 then rootedL (upF l) n (keptS x).f1 else true) else false) else true
theorem lookAll_eq {l : List It} {s : VS} (hi : Inv l s) (hok : okL l = true) (hu : ∀ a, (s.up a).getD (0, 0) = upS l a) : ∀ r : List It, (∀ x ∈ r, x ∈ l) → lookAll s (r.map keptS) = r.all (lkR l l.length)
  | [], _ => rfl
  | x :: r, h => by
    have ih := lookAll_eq hi hok hu r (fun y hy => h y (List.mem_cons_of_mem _ hy))
    have hx := h x (List.mem_cons_self ..)
    have hr := (okP_key (hi.ok x hx)).2.2.1
    have hlen : s.all.length = l.length := by rw [hi.all, List.length_map]
    rw [List.map_cons, lookAll, List.all_cons, ih, hu, ino_eq hi hok hr, hlen, rooted_ext s.up (upF l) (fun i => hu i)]
    unfold lkR
    by_cases c1 : (keptS x).f0 = 1 ∧ ¬ (keptS x).f1 = 1
    · rw [if_pos c1, if_pos c1]
      by_cases c2 : IntKind.u64.wrap (upS l (keptS x).f1).1 = IntKind.u64.wrap ((inR l (keptS x).f1).getD zI).ln
      · rw [if_pos c2, if_pos c2]
        by_cases c3 : ((inR l (keptS x).f1).getD zI).kd = 1
        · rw [if_pos c3, if_pos c3]
          cases rootedL (upF l) l.length (keptS x).f1 <;> simp
        · rw [if_neg c3, if_neg c3, Bool.true_and]
      · rw [if_neg c2, if_neg c2, Bool.false_and]
    · rw [if_neg c1, if_neg c1, Bool.true_and]
def goodR (l : List It) : Bool := okL l && (((inR l 1).getD zI).kd == 1 && (l.all (oneB l) && l.all (lkR l (l.length + 1))))
theorem up_none (l : List It) (a : Int) (h : ∀ x ∈ l, ¬ ((keptS x).f0 = 2 ∧ numS x.f1 = a)) : ∀ p, l.foldl (upT a) p = p := by
  induction l with
  | nil => intro p; rfl
  | cons x r ih =>
    intro p
    rw [List.foldl_cons, show upT a p x = p from if_neg (h x (List.mem_cons_self ..))]
    exact ih (fun y hy => h y (List.mem_cons_of_mem _ hy)) p
theorem fits_num {l : List It} {x : It} (h : oneB l x = true) (h2 : (keptS x).f0 = 2) : numS x.f1 ≠ 0 := by
  unfold oneB at h
  rw [Bool.and_eq_true] at h
  have hf := h.2
  unfold fitsS at hf
  rw [if_pos h2] at hf
  simp only [Bool.and_eq_true] at hf
  intro h0
  have := hf.1.2
  rw [show (keptS x).f4 = x.f1 from rfl, h0] at this
  have this : (inR l 0).isSome = true := this
  rw [show inR l 0 = none from if_neg (by decide)] at this
  cases this
theorem rooted_eq {l : List It} (h1 : ∀ x ∈ l, oneB l x = true) (i : Int) : rootedL (upF l) (l.length + 1) i = rootedL (upF l) l.length i := by
  refine rooted_small (upF l) (l.map (fun x => numS x.f1)) l.length ?_ (by rw [List.length_map]; exact Nat.le_refl _) _ (Nat.le_succ _) i
  have h0 : nxt (upF l) 0 = 0 := by
    show (upS l 0).2 = 0
    rw [show upS l 0 = (0, 0) from up_none l 0 (fun x hx hh => fits_num (h1 x hx) hh.1 hh.2) _]
  have hn0 : ∀ t, ¬ Rc (upF l) t 0 := by
    intro t
    induction t with
    | zero => exact (by decide : ¬ (0 : Int) = 1)
    | succ t ih => intro hh; have := hh.2; rw [h0] at this; exact ih this
  intro t j hj
  refine Classical.byContradiction fun hm => ?_
  have : nxt (upF l) j = 0 := by
    show (upS l j).2 = 0
    rw [show upS l j = (0, 0) from up_none l j (fun x hx hh => hm (List.mem_map.2 ⟨x, hx, hh.2⟩)) _]
  have hh := hj.2
  rw [this] at hh
  exact hn0 t hh
theorem lkR_eq {l : List It} (h1 : ∀ x ∈ l, oneB l x = true) (x : It) : lkR l (l.length + 1) x = lkR l l.length x := by
  unfold lkR
  rw [rooted_eq h1]
theorem fits_eq {l : List It} {s : VS} (hi : Inv l s) (hok : okL l = true) {x : It} (hx : x ∈ l) : fitsS s (keptS x) = fitsS (sR l) (keptS x) := by
  have hr := (okP_key (hi.ok x hx)).2.2.1
  have hn := numS_range (keptS x).f4
  unfold fitsS
  rw [ino_eq hi hok hr, ino_eq hi hok (a := numS (keptS x).f4) (by omega)]
  rfl
theorem good_look {l : List It} (h : goodR l = true) : ∃ s, lookS l = some s := by
  unfold goodR at h
  simp only [Bool.and_eq_true, List.all_eq_true] at h
  obtain ⟨hok, hk1, h1, h2⟩ := h
  have hasc := ((okL_iff l).1 hok).2
  have hokp : ∀ x ∈ l, okP x = true := fun x hx => by
    have ho := h1 x hx
    unfold oneB at ho
    rw [Bool.and_eq_true] at ho
    have hp : pe x = 0 := eq_of_beq ho.1
    unfold okP
    rw [Bool.and_eq_true]
    refine ⟨ho.1, ?_⟩
    by_cases hk : (keptS x).f0 = 1
    · rw [hk]
      have hf := ho.2
      unfold fitsS at hf
      rw [if_neg (by omega), if_neg (by omega), if_neg (by omega)] at hf
      have hf : (inR l (keptS x).f1).isSome = true := hf
      rw [inR_item hasc hx hp hk] at hf
      unfold decO at hf
      by_cases hd : (decS x.f1.data.toList).2.2.2.2.2 = 0
      · rw [hd]; rfl
      · rw [if_neg hd] at hf; cases hf
    · rw [beq_eq_false_iff_ne.2 hk]; rfl
  obtain ⟨s, hs⟩ := parseS_some l VS0 hokp
  have hi := parseS_inv l [] VS0 s inv0 hs
  rw [List.nil_append] at hi
  have hu : ∀ a, (s.up a).getD (0, 0) = upS l a := fun a => parseS_up l VS0 s hs a
  refine ⟨s, ?_⟩
  unfold lookS
  rw [hs]
  refine if_pos ⟨hok, ?_, ?_, ?_⟩
  · rw [ino_eq hi hok ⟨by decide, by decide⟩]; exact eq_of_beq hk1
  · rw [hi.all, List.all_map, List.all_eq_true]
    intro x hx
    show fitsS s (keptS x) = true
    rw [fits_eq hi hok hx]
    have ho := h1 x hx
    unfold oneB at ho
    exact ((Bool.and_eq_true _ _).mp ho).2
  · rw [hi.all, lookAll_eq hi hok hu l (fun _ h => h), List.all_eq_true]
    intro x hx
    rw [← lkR_eq h1]
    exact h2 x hx
theorem look_good {l : List It} {s : VS} (h : lookS l = some s) : goodR l = true := by
  have hr := look_rt h
  unfold lookS at h
  cases hs : parseS l VS0 with
  | none => rw [hs] at h; cases h
  | some s' =>
    rw [hs] at h
    simp only [] at h
    by_cases hc : okL l = true ∧ ((s'.ino 1).getD zI).kd = 1 ∧ s'.all.all (fitsS s') = true ∧ lookAll s' s'.all = true
    · rw [if_pos hc] at h
      obtain rfl := Option.some.inj h
      have hi := hr.inv
      have hu : ∀ a, (s'.up a).getD (0, 0) = upS l a := fun a => parseS_up l VS0 s' hs a
      have hone : ∀ x ∈ l, oneB l x = true := fun x hx => by
        unfold oneB
        rw [Bool.and_eq_true, okP_pe (hi.ok x hx), ← fits_eq hi hc.1 hx]
        exact ⟨rfl, hr.fits x hx⟩
      unfold goodR
      simp only [Bool.and_eq_true, List.all_eq_true]
      refine ⟨hc.1, ?_, hone, fun x hx => ?_⟩
      · rw [← ino_eq hi hc.1 ⟨by decide, by decide⟩]; exact beq_iff_eq.2 hc.2.1
      · rw [lkR_eq hone]
        have := hc.2.2.2
        rw [hi.all, lookAll_eq hi hc.1 hu l (fun _ h => h), List.all_eq_true] at this
        exact this x hx
    · rw [if_neg hc] at h; cases h
theorem look_none_good {l : List It} (h : lookS l = none) : goodR l = false := by
  cases hg : goodR l with
  | false => rfl
  | true => obtain ⟨s, hs⟩ := good_look hg; rw [h] at hs; cases hs
end Go.Proofs.YtpnmajblhgnkoaaGreat.Z
end

section
namespace Go.Proofs.YtpnmajblhgnkoaaGreat.Z
attribute [local go_sem] max2_int min2_int max_two min_two max_three min_three max_four min_four   -- for this text's walks alone
def cambiumref14_Get.f (k : Nat) (l0 : List (S56)) (a1 : Int) : Option (Int × Int × Int × Int × ByteArray × Int) := (cambiumref14_Check.f k l0).bind fun t383 => (if t383 = 0 then ((cambiumref14_inode.f k l0 a1).bind fun bt384 => (if bt384.2.2.2.2.2 = true then (some (bt384.1, bt384.2.1, bt384.2.2.1, bt384.2.2.2.1, bt384.2.2.2.2.1, 0)) else (some (0, 0, 0, 0, (⟨#[]⟩ : ByteArray), 5)))) else (some (0, 0, 0, 0, (⟨#[]⟩ : ByteArray), 9)))
theorem cambiumref14_Get.mono : ∀ a0 a1 k, LeO (cambiumref14_Get.f k a0 a1) (cambiumref14_Get.f (k + 1) a0 a1) := by
 intro a0 a1 k
 unfold cambiumref14_Get.f
 repeat' (first | (with_reducible first | exact cambiumref14_Check.mono _ _ | exact cambiumref14_inode.mono _ _ _ | exact LeO.refl _ | exact LeO.none _ | refine LeO.ite ?_ ?_ | refine LeO.bind ?_ (fun _ => ?_)))
set_option maxHeartbeats 8000000 in
set_option maxRecDepth 100000 in
theorem cambiumref14_Get.calls (k : Nat) (A0 : Option Addr) (c0 : Nat) (l0 : List (S56)) (a1 : Int) (r1 : Int) (r2 : Int) (r3 : Int) (r4 : Int) (r5 : ByteArray) (r6 : Int) (w : World) (hr0 : Kd.C k56 w A0 l0.length l0) (hc0 : l0.length ≤ c0) (h : cambiumref14_Get.f k l0 a1 = some (r1, r2, r3, r4, r5, r6)) :
  Calls Tryz.prog 7 #[.slice A0 l0.length c0, .int .u32 a1] w fun e w' => e = .returned (.tuple #[.agg #[.int .u8 r1, .int .u16 r2, .int .u32 r3, .int .u32 r4, .string r5], .int .i64 r6]) ∧ Below w.heap.size w w' := by
 have hu31 := Tryz.underlying31
 have HR0 := ak_ hr0
 have HC0 := ak_ hc0
 clear hr0 hc0
 have HB := ak_ (Below.refl w.heap.size w)
 have H : ((cambiumref14_Check.f k l0).bind fun t383 => (if t383 = 0 then ((cambiumref14_inode.f k l0 a1).bind fun bt384 => (if bt384.2.2.2.2.2 = true then (some (bt384.1, bt384.2.1, bt384.2.2.1, bt384.2.2.2.1, bt384.2.2.2.2.1, 0)) else (some (0, 0, 0, 0, (⟨#[]⟩ : ByteArray), 5)))) else (some (0, 0, 0, 0, (⟨#[]⟩ : ByteArray), 9)))) = some (r1, r2, r3, r4, r5, r6) := h
 clear h
 replace H := Option.bind_eq_some_iff.mp H
 obtain ⟨t383, A30, H⟩ := H
 try dsimp only at H
 have A3 := ak_ A30
 clear A30
 by_cases c4 : t383 = 0
 ·rw [if_pos c4] at H
  have c4b0 : (t383 == 0) = true := beq_iff_eq.mpr c4
  have c4b1 : (t383 != 0) = false := bne_eq_false_iff_eq.mpr c4
  clear c4
  replace H := Option.bind_eq_some_iff.mp H
  obtain ⟨⟨t384, t385, t386, t387, t388, t389⟩, A50, H⟩ := H
  try dsimp only at H
  have A5 := ak_ A50
  clear A50
  by_cases c6 : t389 = true
  ·subst c6
   rw [if_pos rfl] at H
   simp only [Option.some.injEq, Prod.mk.injEq] at H
   obtain ⟨rfl, rfl, rfl, rfl, rfl, rfl⟩ := H
   go_enter Tryz.func7, Tryz.ntmps7
   go_wp2_with (first | ((with_reducible refine gate_dst (N := 4) rfl ?_); refine bx_ (N := 4) (cs := #[.int .u8 0, .int .u16 0, .int .u32 0, .int .u32 0, .string (⟨#[]⟩ : ByteArray)]) (t := 31) ?_; intro gb382 hg w7 hbox hb; have BK382 := ak_ (hbox); have GW382 := ge_ hg; have GE382 := ge_ hg; replace HB := hb_ hb; clear hb hbox hg) | ((with_reducible refine gate_callee (f := 14) rfl ?_); refine gl_ (some 9) Tryz.func14 #[.slice A0 l0.length c0] ?_; (with_reducible refine (cambiumref14_Check.calls k _ _ l0 t383 _ ?side1 ?side2 A3.out).mono ?_); (case side1 => exact cb_ HR0); (case side2 => exact HC0.out); rintro e w8 ⟨rfl, hb⟩; refine ⟨_, rfl, ?_⟩; replace BK382 := kb_ BK382 hb; replace HB := hb_ hb; (try clear hb)) | ((with_reducible refine gate_callee (f := 21) rfl ?_); refine gl_ (some 15) Tryz.func21 #[.slice A0 l0.length c0, .int .u32 a1] ?_; (with_reducible refine (cambiumref14_inode.calls k _ _ l0 a1 t384 t385 t386 t387 t388 true _ ?side1 ?side2 A5.out).mono ?_); (case side1 => exact cb_ HR0); (case side2 => exact HC0.out); rintro e w9 ⟨rfl, hb⟩; refine ⟨_, rfl, ?_⟩; replace BK382 := kb_ BK382 hb; replace HB := hb_ hb; (try clear hb)) | ((with_reducible refine gate_dst (N := 6) rfl ?_); refine bx_ (N := 6) (cs := #[.int .u8 0, .int .u16 0, .int .u32 0, .int .u32 0, .string (⟨#[]⟩ : ByteArray)]) (t := 31) ?_; intro gb390 hg w10 hbox hb; have BK390 := ak_ (hbox); have GW390 := ge_ hg; have GE390 := ge_ hg; have NB382_390 := nl_ BK382 hg; have NB390_382 := ng_ BK382 hg; replace BK382 := kb_ BK382 hb; replace HB := hb_ hb; clear hb hbox hg; have hnb11 := NB390_382.out; have hnc11 := NB382_390.out; obtain ⟨hcz12_0, hcz12_1, hcz12_2, hcz12_3, hcz12_4⟩ := cl5_ BK390; obtain ⟨hfz12_0, hfz12_1, hfz12_2, hfz12_3, hfz12_4⟩ := fz5_ BK390; obtain ⟨hcz13_0, hcz13_1, hcz13_2, hcz13_3, hcz13_4⟩ := cl5_ BK382; obtain ⟨hfz13_0, hfz13_1, hfz13_2, hfz13_3, hfz13_4⟩ := fz5_ BK382))
   refine bodyPost_ret (results_ct rfl _ _ gb382 31 #[.int .u8 t384, .int .u16 t385, .int .u32 t386, .int .u32 t387, .string t388] (0, 0) _ rfl (bs_) Tryz.underlying31 rfl (by kernel_rfl)) rfl ?_
   exact ⟨by first | rfl | (simp [errW_none, errW_some] <;> rfl) | (simp [*, errW_none, errW_some] <;> rfl), bel_⟩
  replace c6 := Bool.eq_false_iff.mpr c6
  subst c6
  rw [if_neg (show ¬ (false = true) by decide)] at H
  simp only [Option.some.injEq, Prod.mk.injEq] at H
  obtain ⟨rfl, rfl, rfl, rfl, rfl, rfl⟩ := H
  go_enter Tryz.func7, Tryz.ntmps7
  go_wp2_with (first | ((with_reducible refine gate_dst (N := 4) rfl ?_); refine bx_ (N := 4) (cs := #[.int .u8 0, .int .u16 0, .int .u32 0, .int .u32 0, .string (⟨#[]⟩ : ByteArray)]) (t := 31) ?_; intro gb382 hg w14 hbox hb; have BK382 := ak_ (hbox); have GW382 := ge_ hg; have GE382 := ge_ hg; replace HB := hb_ hb; clear hb hbox hg) | ((with_reducible refine gate_callee (f := 14) rfl ?_); refine gl_ (some 9) Tryz.func14 #[.slice A0 l0.length c0] ?_; (with_reducible refine (cambiumref14_Check.calls k _ _ l0 t383 _ ?side1 ?side2 A3.out).mono ?_); (case side1 => exact cb_ HR0); (case side2 => exact HC0.out); rintro e w15 ⟨rfl, hb⟩; refine ⟨_, rfl, ?_⟩; replace BK382 := kb_ BK382 hb; replace HB := hb_ hb; (try clear hb)) | ((with_reducible refine gate_callee (f := 21) rfl ?_); refine gl_ (some 15) Tryz.func21 #[.slice A0 l0.length c0, .int .u32 a1] ?_; (with_reducible refine (cambiumref14_inode.calls k _ _ l0 a1 t384 t385 t386 t387 t388 false _ ?side1 ?side2 A5.out).mono ?_); (case side1 => exact cb_ HR0); (case side2 => exact HC0.out); rintro e w16 ⟨rfl, hb⟩; refine ⟨_, rfl, ?_⟩; replace BK382 := kb_ BK382 hb; replace HB := hb_ hb; (try clear hb)) | ((with_reducible refine gate_dst (N := 6) rfl ?_); refine bx_ (N := 6) (cs := #[.int .u8 0, .int .u16 0, .int .u32 0, .int .u32 0, .string (⟨#[]⟩ : ByteArray)]) (t := 31) ?_; intro gb390 hg w17 hbox hb; have BK390 := ak_ (hbox); have GW390 := ge_ hg; have GE390 := ge_ hg; have NB382_390 := nl_ BK382 hg; have NB390_382 := ng_ BK382 hg; replace BK382 := kb_ BK382 hb; replace HB := hb_ hb; clear hb hbox hg; have hnb18 := NB390_382.out; have hnc18 := NB382_390.out; obtain ⟨hcz19_0, hcz19_1, hcz19_2, hcz19_3, hcz19_4⟩ := cl5_ BK390; obtain ⟨hfz19_0, hfz19_1, hfz19_2, hfz19_3, hfz19_4⟩ := fz5_ BK390; obtain ⟨hcz20_0, hcz20_1, hcz20_2, hcz20_3, hcz20_4⟩ := cl5_ BK382; obtain ⟨hfz20_0, hfz20_1, hfz20_2, hfz20_3, hfz20_4⟩ := fz5_ BK382))
  refine bodyPost_ret (results_ct rfl _ _ gb382 31 #[.int .u8 0, .int .u16 0, .int .u32 0, .int .u32 0, .string (⟨#[]⟩ : ByteArray)] (0, 0) _ rfl (bs_) Tryz.underlying31 rfl (by kernel_rfl)) rfl ?_
  exact ⟨by first | rfl | (simp [errW_none, errW_some] <;> rfl) | (simp [*, errW_none, errW_some] <;> rfl), bel_⟩
 rw [if_neg c4] at H
 have c4b0 : (t383 == 0) = false := beq_eq_false_iff_ne.mpr c4
 have c4b1 : (t383 != 0) = true := bne_iff_ne.mpr c4
 simp only [Option.some.injEq, Prod.mk.injEq] at H
 obtain ⟨rfl, rfl, rfl, rfl, rfl, rfl⟩ := H
 go_enter Tryz.func7, Tryz.ntmps7
 go_wp2_with (first | ((with_reducible refine gate_dst (N := 4) rfl ?_); refine bx_ (N := 4) (cs := #[.int .u8 0, .int .u16 0, .int .u32 0, .int .u32 0, .string (⟨#[]⟩ : ByteArray)]) (t := 31) ?_; intro gb382 hg w21 hbox hb; have BK382 := ak_ (hbox); have GW382 := ge_ hg; have GE382 := ge_ hg; replace HB := hb_ hb; clear hb hbox hg) | ((with_reducible refine gate_callee (f := 14) rfl ?_); refine gl_ (some 9) Tryz.func14 #[.slice A0 l0.length c0] ?_; (with_reducible refine (cambiumref14_Check.calls k _ _ l0 t383 _ ?side1 ?side2 A3.out).mono ?_); (case side1 => exact cb_ HR0); (case side2 => exact HC0.out); rintro e w22 ⟨rfl, hb⟩; refine ⟨_, rfl, ?_⟩; replace BK382 := kb_ BK382 hb; replace HB := hb_ hb; (try clear hb); obtain ⟨hcz23_0, hcz23_1, hcz23_2, hcz23_3, hcz23_4⟩ := cl5_ BK382; obtain ⟨hfz23_0, hfz23_1, hfz23_2, hfz23_3, hfz23_4⟩ := fz5_ BK382))
 refine bodyPost_ret (results_ct rfl _ _ gb382 31 #[.int .u8 0, .int .u16 0, .int .u32 0, .int .u32 0, .string (⟨#[]⟩ : ByteArray)] (0, 0) _ rfl (bs_) Tryz.underlying31 rfl (by kernel_rfl)) rfl ?_
 exact ⟨by first | rfl | (simp [errW_none, errW_some] <;> rfl) | (simp [*, errW_none, errW_some] <;> rfl), bel_⟩
mutual
def cambiumref14_List.j0 : Nat → List (S56) → Int → Int → Bool → Option ((List (S43)) × Int)
 | 0, _, _, _, _ => none
 | k + 1, x0, x1, x7, x27 => if x27 = true then (cambiumref14_List.j1 k x0 x1 12) else (cambiumref14_List.j1 k x0 x1 x7)
def cambiumref14_List.j1 : Nat → List (S56) → Int → Int → Option ((List (S43)) × Int)
 | 0, _, _, _ => none
 | k + 1, x0, x1, x7 => if x7 = 0 then (cambiumref14_List.l0 k x0 x1 ([] : List (S43)) x0 (x0.length : Int) 0) else (some (([] : List (S43)), x7))
def cambiumref14_List.l0 : Nat → List (S56) → Int → List (S43) → List (S56) → Int → Int → Option ((List (S43)) × Int)
 | 0, _, _, _, _, _, _ => none
 | k + 1, x0, x1, x8, x31, x32, x33 => if x33 < x32 then (if 0 ≤ x33 then (if x33 < (x31.length : Int) then ((cambiumref12_Parse.f k ((rd_T56 x31 x33).f0)).bind fun bt400 => (if bt400.1 = 2 then (cambiumref14_List.j3 k x0 x1 x8 x31 x32 x33 (bt400.2.1 == x1) ((rd_T56 x31 x33).f0) ((rd_T56 x31 x33).f1) bt400.1 bt400.2.1 bt400.2.2.1 bt400.2.2.2.1) else (cambiumref14_List.j3 k x0 x1 x8 x31 x32 x33 false ((rd_T56 x31 x33).f0) ((rd_T56 x31 x33).f1) bt400.1 bt400.2.1 bt400.2.2.1 bt400.2.2.2.1))) else (none)) else (none)) else (some (x8, 0))
def cambiumref14_List.j3 : Nat → List (S56) → Int → List (S43) → List (S56) → Int → Int → Bool → ByteArray → ByteArray → Int → Int → ByteArray → Int → Option ((List (S43)) × Int)
 | 0, _, _, _, _, _, _, _, _, _, _, _, _, _ => none
 | k + 1, x0, x1, x8, x31, x32, x33, x51, x400000, x400001, x406000, x406001, x406002, x406003 => if x51 = true then ((cambiumref14_named.f k x400000 x400001).bind fun t406 => ((cambiumref14_inode.f k x0 t406).bind fun bt407 => ((cambiumref14_named.f k x400000 x400001).bind fun t414 => (if x8.length < 5864062014805 then (cambiumref14_List.l0 k x0 x1 (x8 ++ [(⟨x406002, t414, bt407.1⟩ : S43)]) x31 x32 (wrap64 (x33 + 1))) else (none))))) else (cambiumref14_List.l0 k x0 x1 x8 x31 x32 (wrap64 (x33 + 1)))
end
def cambiumref14_List.f (k : Nat) (l0 : List (S56)) (a1 : Int) : Option ((List (S43)) × Int) := (cambiumref14_Get.f k l0 a1).bind fun bt391 => (if bt391.2.2.2.2.2 = 0 then (cambiumref14_List.j0 k l0 a1 bt391.2.2.2.2.2 (bt391.1 != 1)) else (cambiumref14_List.j0 k l0 a1 bt391.2.2.2.2.2 false))
theorem cambiumref14_List.mono_l : ∀ k, (∀ y0 y1 y2 y3, LeO (cambiumref14_List.j0 k y0 y1 y2 y3) (cambiumref14_List.j0 (k + 1) y0 y1 y2 y3)) ∧ (∀ y0 y1 y2, LeO (cambiumref14_List.j1 k y0 y1 y2) (cambiumref14_List.j1 (k + 1) y0 y1 y2)) ∧ (∀ y0 y1 y2 y3 y4 y5, LeO (cambiumref14_List.l0 k y0 y1 y2 y3 y4 y5) (cambiumref14_List.l0 (k + 1) y0 y1 y2 y3 y4 y5)) ∧ (∀ y0 y1 y2 y3 y4 y5 y6 y7 y8 y9 y10 y11 y12, LeO (cambiumref14_List.j3 k y0 y1 y2 y3 y4 y5 y6 y7 y8 y9 y10 y11 y12) (cambiumref14_List.j3 (k + 1) y0 y1 y2 y3 y4 y5 y6 y7 y8 y9 y10 y11 y12))
 | 0 => by
  refine ⟨?_, ?_, ?_, ?_⟩ <;> (intros; intro r h; simp [cambiumref14_List.j0, cambiumref14_List.j1, cambiumref14_List.l0, cambiumref14_List.j3] at h)
 | k + 1 => by
  obtain ⟨ih0, ih1, ih2, ih3⟩ := cambiumref14_List.mono_l k
  refine ⟨?_, ?_, ?_, ?_⟩ <;> (intros; (first | unfold cambiumref14_List.j0 | unfold cambiumref14_List.j1 | unfold cambiumref14_List.l0 | unfold cambiumref14_List.j3); repeat' (first | (with_reducible first | exact ih0 _ _ _ _ | exact ih1 _ _ _ | exact ih2 _ _ _ _ _ _ | exact ih3 _ _ _ _ _ _ _ _ _ _ _ _ _ | exact cambiumref12_Parse.mono _ _ | exact cambiumref14_Get.mono _ _ _ | exact cambiumref14_inode.mono _ _ _ | exact cambiumref14_named.mono _ _ _ | exact LeO.refl _ | exact LeO.none _ | refine LeO.ite ?_ ?_ | refine LeO.bind ?_ (fun _ => ?_))))
theorem cambiumref14_List.mono : ∀ a0 a1 k, LeO (cambiumref14_List.f k a0 a1) (cambiumref14_List.f (k + 1) a0 a1) := by
 intro a0 a1 k
 obtain ⟨ih0, ih1, ih2, ih3⟩ := cambiumref14_List.mono_l k
 unfold cambiumref14_List.f
 repeat' (first | (with_reducible first | exact ih0 _ _ _ _ | exact ih1 _ _ _ | exact ih2 _ _ _ _ _ _ | exact ih3 _ _ _ _ _ _ _ _ _ _ _ _ _ | exact cambiumref12_Parse.mono _ _ | exact cambiumref14_Get.mono _ _ _ | exact cambiumref14_inode.mono _ _ _ | exact cambiumref14_named.mono _ _ _ | exact LeO.refl _ | exact LeO.none _ | refine LeO.ite ?_ ?_ | refine LeO.bind ?_ (fun _ => ?_)))
def cambiumref14_List.T13 : Bool × List (List Nat × List Nat) := (true, [([], []), ([], []), ([1], [1]), ([], []), ([3], [3]), ([], []), ([5], [5]), ([2, 4, 6], [2, 4, 6]), ([7], [7]), ([0, 8, 4], [0, 8]), ([9, 9, 0, 1, 2, 3, 4, 5, 6, 7, 8, 9], [0, 9])])
def cambiumref14_List.B13 : List Nat := [0, 0, 2, 0, 8, 0, 32, 126, 254, 511, 1023]
theorem cambiumref14_List.tab13 : rtab .any (opsOf Tryz.f9 13) = cambiumref14_List.T13 := by kernel_rfl
theorem cambiumref14_List.bits13 : waitsOk cambiumref14_List.T13.2 cambiumref14_List.B13 = true := by kernel_rfl
set_option maxHeartbeats 64000000 in
set_option maxRecDepth 100000 in
theorem cambiumref14_List.calls (k : Nat) (A0 : Option Addr) (c0 : Nat) (l0 : List (S56)) (a1 : Int) (r1 : List (S43)) (r2 : Int) (w : World) (hr0 : Kd.C k56 w A0 l0.length l0) (hc0 : l0.length ≤ c0) (h : cambiumref14_List.f k l0 a1 = some (r1, r2)) :
  Calls Tryz.prog 9 #[.slice A0 l0.length c0, .int .u32 a1] w fun e w' => ∃ v0_ : Value, e = .returned (.tuple #[v0_, .int .i64 r2]) ∧ Kd.R k43 43 w' w.heap.size (fun _ => True) v0_ r1 ∧ Below w.heap.size w w' := by
 have hu31 := Tryz.underlying31
 have hu56 := Tryz.underlying56
 have hu59 := Tryz.underlying59
 have hu43 := Tryz.underlying43
 have HR0 := ak_ hr0
 have HC0 := ak_ hc0
 clear hr0 hc0
 have HB := ak_ (Below.refl w.heap.size w)
 have H : ((cambiumref14_Get.f k l0 a1).bind fun bt391 => (if bt391.2.2.2.2.2 = 0 then (cambiumref14_List.j0 k l0 a1 bt391.2.2.2.2.2 (bt391.1 != 1)) else (cambiumref14_List.j0 k l0 a1 bt391.2.2.2.2.2 false))) = some (r1, r2) := h
 clear h
 replace H := Option.bind_eq_some_iff.mp H
 obtain ⟨⟨t391, t392, t393, t394, t395, t396⟩, A30, H⟩ := H
 try dsimp only at H
 have A3 := ak_ A30
 clear A30
 have HC4 := ak_ H
 clear H
 go_enter Tryz.func9, Tryz.ntmps9
 go_upto_region 2 with (first | ((with_reducible refine gate_callee (f := 7) rfl ?_); refine gl_ (some 18) Tryz.func7 #[.slice A0 l0.length c0, .int .u32 a1] ?_; (with_reducible refine (cambiumref14_Get.calls k _ _ l0 a1 t391 t392 t393 t394 t395 t396 _ ?side1 ?side2 A3.out).mono ?_); (case side1 => repeat (first | exact HR0.out | (with_reducible refine Kd.C_alloc ?_ _) | (with_reducible refine Kd.C_drewN ?_ _) | (with_reducible refine Kd.C_drew ?_))); (case side2 => exact HC0.out); rintro e w5 ⟨rfl, hb⟩; refine ⟨_, rfl, ?_⟩; have n0_ := ak_ (below_step bel_ hb); clear HB; have HB := n0_; clear n0_; (try clear hb)) | ((with_reducible refine gate_dst (N := 6) rfl ?_); refine bx_ (N := 6) (cs := #[.int .u8 0, .int .u16 0, .int .u32 0, .int .u32 0, .string (⟨#[]⟩ : ByteArray)]) (t := 31) ?_; intro gb397 hg w6 hbox hb; have n0_ := ak_ (below_step bel_ hb); have n1_ := ak_ (hbox); have n2_ := ak_ ((by rw [hg]; exact (below_size bel_) : w.heap.size ≤ gb397)); have n3_ := ak_ ((by rw [hg]; exact (below_size bel_) : w.heap.size ≤ gb397)); clear HB; have HB := n0_; have BK397 := n1_; have GW397 := n2_; have GE397 := n3_; clear n0_ n1_ n2_ n3_; clear hb hbox hg; have hcz7_0 : w6.cell? ⟨gb397, 0, none⟩ = some (.int .u8 0) := (blk_cell BK397.out 0).trans rfl; have hcz7_1 : w6.cell? ⟨gb397, 1, none⟩ = some (.int .u16 0) := (blk_cell BK397.out 1).trans rfl; have hcz7_2 : w6.cell? ⟨gb397, 2, none⟩ = some (.int .u32 0) := (blk_cell BK397.out 2).trans rfl; have hcz7_3 : w6.cell? ⟨gb397, 3, none⟩ = some (.int .u32 0) := (blk_cell BK397.out 3).trans rfl; have hcz7_4 : w6.cell? ⟨gb397, 4, none⟩ = some (.string (⟨#[]⟩ : ByteArray)) := (blk_cell BK397.out 4).trans rfl; have hfz7_0 := blk_frozen BK397.out 0; have hfz7_1 := blk_frozen BK397.out 1; have hfz7_2 := blk_frozen BK397.out 2; have hfz7_3 := blk_frozen BK397.out 3; have hfz7_4 := blk_frozen BK397.out 4))
 (try simp only [Act.put, List.setIfInBounds_toArray, List.set_cons_zero, List.set_cons_succ])
 go_cut [27] (fun v27 wc => ∃ (kq : Nat) (x27_3 : Bool), v27 = .bool x27_3 ∧ Aside0 (cambiumref14_List.j0 kq l0 a1 t396 x27_3 = some (r1, r2)) ∧ Aside0 (kq ≤ k) ∧ Aside0 (wc.heap[gb397]? = some (.cells #[.int .u8 t391, .int .u16 t392, .int .u32 t393, .int .u32 t394, .string t395] 31 (0, 0))) ∧ Aside0 (Below w.heap.size w wc))
 case first =>
  have H := HC4.out
  clear HC4
  by_cases c8 : t396 = 0
  ·rw [if_pos c8] at H
   have c8b0 : (t396 == 0) = true := beq_iff_eq.mpr c8
   have c8b1 : (t396 != 0) = false := bne_eq_false_iff_eq.mpr c8
   clear c8
   (first | rw [c8b0] | (simp only [i64_w, i32_w]; rw [c8b0]) | skip)
   have H' := ak_ H
   clear H
   obtain ⟨hcz9_0, hcz9_1, hcz9_2, hcz9_3, hcz9_4⟩ := cl5_ BK397
   obtain ⟨hfz9_0, hfz9_1, hfz9_2, hfz9_3, hfz9_4⟩ := fz5_ BK397
   go_wp2
   go_meet
   case rel => exact ⟨_, ((t391 != 1)), rfl, H', ⟨by first | omega | exact Nat.le_refl _⟩, ⟨bs_⟩, ⟨bel_⟩⟩
  rw [if_neg c8] at H
  have c8b0 : (t396 == 0) = false := beq_eq_false_iff_ne.mpr c8
  have c8b1 : (t396 != 0) = true := bne_iff_ne.mpr c8
  (first | rw [c8b0] | (simp only [i64_w, i32_w]; rw [c8b0]) | skip)
  have H' := ak_ H
  clear H
  go_wp2
  go_meet
  case rel => exact ⟨_, (false), rfl, H', ⟨by first | omega | exact Nat.le_refl _⟩, ⟨bs_⟩, ⟨bel_⟩⟩
 case rest =>
  clear HC4
  obtain ⟨kq, x27_3, rfl, HA, HJ3, BK397, HB⟩ := hcut
  cases kq with
  | zero => exact absurd HA.out (by simp [cambiumref14_List.j0])
  | succ kj3 =>
   have H := HA.out
   clear HA
   simp only [cambiumref14_List.j0] at H
   have HC10 := ak_ H
   clear H
   go_upto_if 27 with (fail)
   go_cut [7] (fun v7 wc => ∃ (kq : Nat) (x7_9 : Int), v7 = .int .i64 x7_9 ∧ Aside0 (cambiumref14_List.j1 kq l0 a1 x7_9 = some (r1, r2)) ∧ Aside0 (kq ≤ kj3) ∧ Aside0 (wc.heap[gb397]? = some (.cells #[.int .u8 t391, .int .u16 t392, .int .u32 t393, .int .u32 t394, .string t395] 31 (0, 0))) ∧ Aside0 (Below w.heap.size w wc))
   case first =>
    have H := HC10.out
    clear HC10
    by_cases c11 : x27_3 = true
    ·subst c11
     rw [if_pos rfl] at H
     have H' := ak_ H
     clear H
     go_wp2
     go_meet
     case rel => exact ⟨_, (12), rfl, H', ⟨by have := HJ3.out; first | omega | exact Nat.le_refl _⟩, ⟨bk_ BK397⟩, ⟨bel_⟩⟩
    replace c11 := Bool.eq_false_iff.mpr c11
    subst c11
    rw [if_neg (show ¬ (false = true) by decide)] at H
    have H' := ak_ H
    clear H
    go_wp2
    go_meet
    case rel => exact ⟨_, (t396), rfl, H', ⟨by have := HJ3.out; first | omega | exact Nat.le_refl _⟩, ⟨bk_ BK397⟩, ⟨bel_⟩⟩
   case rest =>
    clear HC10
    obtain ⟨kq, x7_9, rfl, HA, HJ9, BK397, HB⟩ := hcut
    cases kq with
    | zero => exact absurd HA.out (by simp [cambiumref14_List.j1])
    | succ kj9 =>
     have H := HA.out
     clear HA
     simp only [cambiumref14_List.j1] at H
     by_cases c12 : x7_9 = 0
     ·rw [if_pos c12] at H
      have c12b0 : (x7_9 == 0) = true := beq_iff_eq.mpr c12
      have c12b1 : (x7_9 != 0) = false := bne_eq_false_iff_eq.mpr c12
      clear c12
      have H' := ak_ H
      clear H
      go_wp2
      go_loopg [8, 33] kj9 (fun kq v8 v33 w' => ∃ (x8_3 : List (S43)) (x33_3 : Int), v33 = .int .i64 x33_3 ∧ Aside0 (cambiumref14_List.l0 kq l0 a1 x8_3 l0 (l0.length : Int) x33_3 = some (r1, r2)) ∧ Aside0 (kq ≤ kj9) ∧ Aside0 (Kd.R k43 43 w' w.heap.size (fun _ => True) v8 x8_3) ∧ Aside0 (w'.heap[gb397]? = some (.cells #[.int .u8 t391, .int .u16 t392, .int .u32 t393, .int .u32 t394, .string t395] 31 (0, 0))) ∧ Aside0 (Below w.heap.size w w'))
      case atStart => exact ⟨(([] : List (S43))), (0), rfl, H', ⟨Nat.le_refl _⟩, ⟨by first | exact Kd.R_nil _ _ _ _ _ | exact Kd.N_nil _ _ _ _ _ | exact Kd.V_nil _ _ _ _ _ | exact Kd.Q_nil _ _ _ _ _ | exact Kd.S_nil _ _ _ _ _⟩, ⟨bk_ BK397⟩, ⟨bel_⟩⟩
      case round =>
       clear H'
       obtain ⟨x8_3, x33_3, rfl, HA, HK3, HO_8, BK397, HB⟩ := hrel
       cases gk with
       | zero => exact absurd HA.out (by simp [cambiumref14_List.l0])
       | succ k3 =>
        have H := HA.out
        clear HA
        simp only [cambiumref14_List.l0] at H
        by_cases c13 : x33_3 < (l0.length : Int)
        ·rw [if_pos c13] at H
         have c13b0 : decide (x33_3 < (l0.length : Int)) = true := decide_eq_true c13
         clear c13
         by_cases c14 : 0 ≤ x33_3
         ·rw [if_pos c14] at H
          have c14b0 : decide (0 ≤ x33_3) = true := decide_eq_true c14
          clear c14
          by_cases c15 : x33_3 < (l0.length : Int)
          ·rw [if_pos c15] at H
           have c15b0 : decide (x33_3 < (l0.length : Int)) = true := decide_eq_true c15
           clear c15
           replace H := Option.bind_eq_some_iff.mp H
           obtain ⟨⟨t400, t401, t402, t403, t404⟩, A160, H⟩ := H
           try dsimp only at H
           have A16 := ak_ A160
           clear A160
           have HC17 := ak_ H
           clear H
           have p398 : 0 ≤ (x33_3 : Int) := of_decide_eq_true (by first | (with_reducible assumption) | assumption)
           have q398 : x33_3 < (l0.length : Int) := of_decide_eq_true (by first | (with_reducible assumption) | assumption)
           obtain ⟨ad398, e398, hx398_0, hx398_1⟩ := at_T56 HR0.out x33_3 p398 q398
           cases e398
           replace hx398_0 := (HB.out.cell (World.block_lt_of_cell? w _ hx398_0)).trans hx398_0
           replace hx398_1 := (HB.out.cell (World.block_lt_of_cell? w _ hx398_1)).trans hx398_1
           replace p398 := eq_true p398
           replace q398 := eq_true q398
           go_upto_region 11 with (first | ((with_reducible refine gate_dst (N := 10) rfl ?_); refine bx_ (N := 10) (cs := #[.string (⟨#[]⟩ : ByteArray), .string (⟨#[]⟩ : ByteArray)]) (t := 56) ?_; intro gb399 hg w18 hbox hb; have n0_ := ak_ (Kd.R_below (ra_ HO_8) hb); have n1_ := ak_ (blk_below (bk_ BK397) hb); have n2_ := ak_ (below_step bel_ hb); have n3_ := ak_ (hbox); have n4_ := ak_ ((by rw [hg]; exact (below_size bel_) : w.heap.size ≤ gb399)); have n5_ := ak_ ((by rw [hg]; exact (below_size bel_) : w.heap.size ≤ gb399)); have n6_ := ak_ ((by rw [hg]; exact Nat.ne_of_lt (blk_lt (bk_ BK397)) : gb397 ≠ gb399)); have n7_ := ak_ ((by rw [hg]; exact Nat.ne_of_gt (blk_lt (bk_ BK397)) : gb399 ≠ gb397)); clear HO_8; clear BK397; clear HB; have HO_8 := n0_; have BK397 := n1_; have HB := n2_; have BK399 := n3_; have GW399 := n4_; have GE399 := n5_; have NB397_399 := n6_; have NB399_397 := n7_; clear n0_ n1_ n2_ n3_ n4_ n5_ n6_ n7_; clear hb hbox hg; have hnb19 := NB399_397.out; have hnc19 := NB397_399.out; have hcz20_0 : w18.cell? ⟨gb399, 0, none⟩ = some (.string (⟨#[]⟩ : ByteArray)) := (blk_cell BK399.out 0).trans rfl; have hcz20_1 : w18.cell? ⟨gb399, 1, none⟩ = some (.string (⟨#[]⟩ : ByteArray)) := (blk_cell BK399.out 1).trans rfl; have hfz20_0 := blk_frozen BK399.out 0; have hfz20_1 := blk_frozen BK399.out 1) | ((with_reducible refine gate_callee (f := 26) rfl ?_); refine gl_ (some 40) Tryz.func26 #[.string ((rd_T56 l0 x33_3).f0)] ?_; (with_reducible refine (cambiumref12_Parse.calls k3 ((rd_T56 l0 x33_3).f0) t400 t401 t402 t403 t404 _ A16.out).mono ?_); rintro e w21 ⟨rfl, hb⟩; refine ⟨_, rfl, ?_⟩; have n0_ := ak_ (Kd.R_below (rw_ HO_8) hb); have n1_ := ak_ (blk_below (g := gb397) (o := .cells #[.int .u8 t391, .int .u16 t392, .int .u32 t393, .int .u32 t394, .string t395] 31 (0, 0)) (bs_) hb); have n2_ := ak_ (blk_below (g := gb399) (o := .cells #[.string ((rd_T56 l0 x33_3).f0), .string ((rd_T56 l0 x33_3).f1)] 56 (0, 0)) (bs_) hb); have n3_ := ak_ (below_step bel_ hb); clear HO_8; clear BK397; clear BK399; clear HB; have HO_8 := n0_; have BK397 := n1_; have BK399 := n2_; have HB := n3_; clear n0_ n1_ n2_ n3_; (try clear hb)) | ((with_reducible refine gate_dst (N := 11) rfl ?_); refine bx_ (N := 11) (cs := #[.int .u8 0, .int .u32 0, .string (⟨#[]⟩ : ByteArray), .int .u32 0]) (t := 59) ?_; intro gb405 hg w22 hbox hb; have n0_ := ak_ (Kd.R_below (ra_ HO_8) hb); have n1_ := ak_ (blk_below (bk_ BK397) hb); have n2_ := ak_ (blk_below (bk_ BK399) hb); have n3_ := ak_ (below_step bel_ hb); have n4_ := ak_ (hbox); have n5_ := ak_ ((by rw [hg]; exact (below_size bel_) : w.heap.size ≤ gb405)); have n6_ := ak_ ((by rw [hg]; exact (below_size bel_) : w.heap.size ≤ gb405)); have n7_ := ak_ ((by rw [hg]; exact Nat.ne_of_lt (blk_lt (bk_ BK397)) : gb397 ≠ gb405)); have n8_ := ak_ ((by rw [hg]; exact Nat.ne_of_gt (blk_lt (bk_ BK397)) : gb405 ≠ gb397)); have n9_ := ak_ ((by rw [hg]; exact Nat.ne_of_lt (blk_lt (bk_ BK399)) : gb399 ≠ gb405)); have n10_ := ak_ ((by rw [hg]; exact Nat.ne_of_gt (blk_lt (bk_ BK399)) : gb405 ≠ gb399)); clear HO_8; clear BK397; clear BK399; clear HB; have HO_8 := n0_; have BK397 := n1_; have BK399 := n2_; have HB := n3_; have BK405 := n4_; have GW405 := n5_; have GE405 := n6_; have NB397_405 := n7_; have NB405_397 := n8_; have NB399_405 := n9_; have NB405_399 := n10_; clear n0_ n1_ n2_ n3_ n4_ n5_ n6_ n7_ n8_ n9_ n10_; clear hb hbox hg; have hnb23 := NB405_397.out; have hnc23 := NB397_405.out; have hnb24 := NB405_399.out; have hnc24 := NB399_405.out; have hcz25_0 : w22.cell? ⟨gb405, 0, none⟩ = some (.int .u8 0) := (blk_cell BK405.out 0).trans rfl; have hcz25_1 : w22.cell? ⟨gb405, 1, none⟩ = some (.int .u32 0) := (blk_cell BK405.out 1).trans rfl; have hcz25_2 : w22.cell? ⟨gb405, 2, none⟩ = some (.string (⟨#[]⟩ : ByteArray)) := (blk_cell BK405.out 2).trans rfl; have hcz25_3 : w22.cell? ⟨gb405, 3, none⟩ = some (.int .u32 0) := (blk_cell BK405.out 3).trans rfl; have hfz25_0 := blk_frozen BK405.out 0; have hfz25_1 := blk_frozen BK405.out 1; have hfz25_2 := blk_frozen BK405.out 2; have hfz25_3 := blk_frozen BK405.out 3))
           (try simp only [Act.put, List.setIfInBounds_toArray, List.set_cons_zero, List.set_cons_succ])
           go_cut [51] (fun v51 wc => ∃ (kq : Nat) (x51_16 : Bool), v51 = .bool x51_16 ∧ Aside0 (cambiumref14_List.j3 kq l0 a1 x8_3 l0 (l0.length : Int) x33_3 x51_16 ((rd_T56 l0 x33_3).f0) ((rd_T56 l0 x33_3).f1) t400 t401 t402 t403 = some (r1, r2)) ∧ Aside0 (kq ≤ k3) ∧ Aside0 (Kd.R k43 43 wc w.heap.size (fun _ => True) u8 x8_3) ∧ Aside0 (wc.heap[gb397]? = some (.cells #[.int .u8 t391, .int .u16 t392, .int .u32 t393, .int .u32 t394, .string t395] 31 (0, 0))) ∧ Aside0 (wc.heap[gb399]? = some (.cells #[.string ((rd_T56 l0 x33_3).f0), .string ((rd_T56 l0 x33_3).f1)] 56 (0, 0))) ∧ Aside0 (wc.heap[gb405]? = some (.cells #[.int .u8 t400, .int .u32 t401, .string t402, .int .u32 t403] 59 (0, 0))) ∧ Aside0 (Below w.heap.size w wc))
           case first =>
            have H := HC17.out
            clear HC17
            refine Or.elim (Classical.em (t400 = 2)) (fun c26 => ?p1_) (fun c26 => ?n1_)
            case' p1_ =>
             rw [if_pos c26] at H
             have c26b0 : (t400 == 2) = true := beq_iff_eq.mpr c26
             have c26b1 : (t400 != 2) = false := bne_eq_false_iff_eq.mpr c26
             clear c26
             (first | rw [c26b0] | (simp only [i64_w, i32_w]; rw [c26b0]) | skip)
             refine ?z1_
            case' n1_ =>
             rw [if_neg c26] at H
             have c26b0 : (t400 == 2) = false := beq_eq_false_iff_ne.mpr c26
             have c26b1 : (t400 != 2) = true := bne_iff_ne.mpr c26
             (first | rw [c26b0] | (simp only [i64_w, i32_w]; rw [c26b0]) | skip)
             refine ?z2_
            case p1_ | n1_ =>
             have H' := ak_ H
             clear H
             have hnb901 := NB405_397.out
             have hnc901 := NB397_405.out
             have hnb902 := NB405_399.out
             have hnc902 := NB399_405.out
             obtain ⟨hcz903_0, hcz903_1, hcz903_2, hcz903_3⟩ := cl4_ BK405
             obtain ⟨hfz903_0, hfz903_1, hfz903_2, hfz903_3⟩ := fz4_ BK405
             go_wp2
             go_meet
             case rel => first | (exact ⟨_, ((t401 == a1)), rfl, H', ⟨by have := HJ3.out; have := HJ9.out; have := HK3.out; first | omega | exact Nat.le_refl _⟩, ⟨by (with_reducible repeat (first | apply Kd.R_alloc | apply Kd.R_drewN | apply Kd.R_drew)); exact Kd.R_mono (Kd.R_far (p := ⟨gb405, 3, none⟩) (Kd.R_far (p := ⟨gb405, 2, none⟩) (Kd.R_far (p := ⟨gb405, 1, none⟩) (Kd.R_far (p := ⟨gb405, 0, none⟩) (Kd.R_types HO_8.out BK405.out (by decide)) (fun _ hk => hk.2) (.int .u8 t400)) (fun _ hk => hk.2) (.int .u32 t401)) (fun _ hk => hk.2) (.string t402)) (fun _ hk => hk.2) (.int .u32 t403)) (fun _ hk => trivial)⟩, ⟨bs_⟩, ⟨bs_⟩, ⟨bs_⟩, ⟨bel_⟩⟩) | (exact ⟨_, (false), rfl, H', ⟨by have := HJ3.out; have := HJ9.out; have := HK3.out; first | omega | exact Nat.le_refl _⟩, ⟨by (with_reducible repeat (first | apply Kd.R_alloc | apply Kd.R_drewN | apply Kd.R_drew)); exact Kd.R_mono (Kd.R_far (p := ⟨gb405, 3, none⟩) (Kd.R_far (p := ⟨gb405, 2, none⟩) (Kd.R_far (p := ⟨gb405, 1, none⟩) (Kd.R_far (p := ⟨gb405, 0, none⟩) (Kd.R_types HO_8.out BK405.out (by decide)) (fun _ hk => hk.2) (.int .u8 t400)) (fun _ hk => hk.2) (.int .u32 t401)) (fun _ hk => hk.2) (.string t402)) (fun _ hk => hk.2) (.int .u32 t403)) (fun _ hk => trivial)⟩, ⟨bs_⟩, ⟨bs_⟩, ⟨bs_⟩, ⟨bel_⟩⟩)
           case rest =>
            clear HC17
            obtain ⟨kq, x51_16, rfl, HA, HJ16, HO_8, BK397, BK399, BK405, HB⟩ := hcut
            cases kq with
            | zero => exact absurd HA.out (by simp [cambiumref14_List.j3])
            | succ kj16 =>
             have H := HA.out
             clear HA
             simp only [cambiumref14_List.j3] at H
             by_cases c33 : x51_16 = true
             ·subst c33
              rw [if_pos rfl] at H
              replace H := Option.bind_eq_some_iff.mp H
              obtain ⟨t406, A340, H⟩ := H
              try dsimp only at H
              have A34 := ak_ A340
              clear A340
              replace H := Option.bind_eq_some_iff.mp H
              obtain ⟨⟨t407, t408, t409, t410, t411, t412⟩, A350, H⟩ := H
              try dsimp only at H
              have A35 := ak_ A350
              clear A350
              replace H := Option.bind_eq_some_iff.mp H
              obtain ⟨t414, A360, H⟩ := H
              try dsimp only at H
              have A36 := ak_ A360
              clear A360
              by_cases c37 : x8_3.length < 5864062014805
              ·rw [if_pos c37] at H
               have LMc37 := ak_ c37
               clear c37
               obtain ⟨y415, hy415⟩ : ∃ y_ : List (S43), y_ = (x8_3 ++ [(⟨t402, t414, t407⟩ : S43)]) := ⟨_, rfl⟩
               replace H : (cambiumref14_List.l0 kj16 l0 a1 y415 l0 (l0.length : Int) (wrap64 (x33_3 + 1))) = some (r1, r2) := by first | (rw [hy415]; with_reducible exact H) | (have H2_ := (Option.bind_some _ _).symm.trans H; rw [hy415]; with_reducible exact H2_) | (have H2_ := (Option.bind_some _ _).symm.trans H; with_reducible exact H2_) | with_reducible exact H | (rw [hy415]; exact H) | exact H
               have Ny415 := ak_ hy415
               clear hy415
               have H' := ak_ H
               clear H
               have hnb38 := NB399_397.out
               have hnc38 := NB397_399.out
               have hnb39 := NB399_405.out
               have hnc39 := NB405_399.out
               obtain ⟨hcz40_0, hcz40_1⟩ := cl2_ BK399
               obtain ⟨hfz40_0, hfz40_1⟩ := fz2_ BK399
               try go_wp2_with (first | ((with_reducible refine gate_callee (f := 27) rfl ?_); refine gl_ (some 55) Tryz.func27 #[.agg #[.string ((rd_T56 l0 x33_3).f0), .string ((rd_T56 l0 x33_3).f1)]] ?_; (with_reducible refine (cambiumref14_named.calls kj16 ((rd_T56 l0 x33_3).f0) ((rd_T56 l0 x33_3).f1) t406 _ A34.out).mono ?_); rintro e w41 ⟨rfl, hb⟩; refine ⟨_, rfl, ?_⟩; replace HO_8 := rb_ HO_8 hb; replace BK397 := kb_ BK397 hb; replace BK399 := kb_ BK399 hb; replace BK405 := kb_ BK405 hb; replace HB := hb_ hb; (try clear hb)) | ((with_reducible refine gate_callee (f := 21) rfl ?_); refine gl_ (some 56) Tryz.func21 #[.slice (some ad398) l0.length c0, .int .u32 t406] ?_; (with_reducible refine (cambiumref14_inode.calls kj16 _ _ l0 t406 t407 t408 t409 t410 t411 t412 _ ?side1 ?side2 A35.out).mono ?_); (case side1 => exact cb_ HR0); (case side2 => exact HC0.out); rintro e w42 ⟨rfl, hb⟩; refine ⟨_, rfl, ?_⟩; replace HO_8 := rb_ HO_8 hb; replace BK397 := kb_ BK397 hb; replace BK399 := kb_ BK399 hb; replace BK405 := kb_ BK405 hb; replace HB := hb_ hb; (try clear hb)) | ((with_reducible refine gate_dst (N := 13) rfl ?_); refine bx_ (N := 13) (cs := #[.int .u8 0, .int .u16 0, .int .u32 0, .int .u32 0, .string (⟨#[]⟩ : ByteArray)]) (t := 31) ?_; intro gb413 hg w43 hbox hb; have BK413 := ak_ (hbox); have GW413 := ge_ hg; have GE413 := ge_ hg; have NB397_413 := nl_ BK397 hg; have NB413_397 := ng_ BK397 hg; have NB399_413 := nl_ BK399 hg; have NB413_399 := ng_ BK399 hg; have NB405_413 := nl_ BK405 hg; have NB413_405 := ng_ BK405 hg; replace HO_8 := rb_ HO_8 hb; replace BK397 := kb_ BK397 hb; replace BK399 := kb_ BK399 hb; replace BK405 := kb_ BK405 hb; replace HB := hb_ hb; clear hb hbox hg; have hnb44 := NB413_397.out; have hnc44 := NB397_413.out; have hnb45 := NB413_399.out; have hnc45 := NB399_413.out; have hnb46 := NB413_405.out; have hnc46 := NB405_413.out; obtain ⟨hcz47_0, hcz47_1, hcz47_2, hcz47_3, hcz47_4⟩ := cl5_ BK413; obtain ⟨hfz47_0, hfz47_1, hfz47_2, hfz47_3, hfz47_4⟩ := fz5_ BK413))
               have n0_ : Aside0 (Kd.R k43 43 (((((w43.setCell ⟨gb413, 0, none⟩ (.int .u8 t407)).setCell ⟨gb413, 1, none⟩ (.int .u16 t408)).setCell ⟨gb413, 2, none⟩ (.int .u32 t409)).setCell ⟨gb413, 3, none⟩ (.int .u32 t410)).setCell ⟨gb413, 4, none⟩ (.string t411)) w.heap.size (fun _ => True) u8 x8_3) := ⟨by (with_reducible repeat (first | apply Kd.R_alloc | apply Kd.R_drewN | apply Kd.R_drew)); exact Kd.R_mono (Kd.R_far (p := ⟨gb413, 4, none⟩) (Kd.R_far (p := ⟨gb413, 3, none⟩) (Kd.R_far (p := ⟨gb413, 2, none⟩) (Kd.R_far (p := ⟨gb413, 1, none⟩) (Kd.R_far (p := ⟨gb413, 0, none⟩) (Kd.R_types HO_8.out BK413.out (by decide)) (fun _ hk => hk.2) (.int .u8 t407)) (fun _ hk => hk.2) (.int .u16 t408)) (fun _ hk => hk.2) (.int .u32 t409)) (fun _ hk => hk.2) (.int .u32 t410)) (fun _ hk => hk.2) (.string t411)) (fun _ hk => trivial)⟩
               have n1_ : Aside0 ((((((w43.setCell ⟨gb413, 0, none⟩ (.int .u8 t407)).setCell ⟨gb413, 1, none⟩ (.int .u16 t408)).setCell ⟨gb413, 2, none⟩ (.int .u32 t409)).setCell ⟨gb413, 3, none⟩ (.int .u32 t410)).setCell ⟨gb413, 4, none⟩ (.string t411)).heap[gb397]? = some (.cells #[.int .u8 t391, .int .u16 t392, .int .u32 t393, .int .u32 t394, .string t395] 31 (0, 0))) := ⟨bs_⟩
               have n2_ : Aside0 ((((((w43.setCell ⟨gb413, 0, none⟩ (.int .u8 t407)).setCell ⟨gb413, 1, none⟩ (.int .u16 t408)).setCell ⟨gb413, 2, none⟩ (.int .u32 t409)).setCell ⟨gb413, 3, none⟩ (.int .u32 t410)).setCell ⟨gb413, 4, none⟩ (.string t411)).heap[gb399]? = some (.cells #[.string ((rd_T56 l0 x33_3).f0), .string ((rd_T56 l0 x33_3).f1)] 56 (0, 0))) := ⟨bs_⟩
               have n3_ : Aside0 ((((((w43.setCell ⟨gb413, 0, none⟩ (.int .u8 t407)).setCell ⟨gb413, 1, none⟩ (.int .u16 t408)).setCell ⟨gb413, 2, none⟩ (.int .u32 t409)).setCell ⟨gb413, 3, none⟩ (.int .u32 t410)).setCell ⟨gb413, 4, none⟩ (.string t411)).heap[gb405]? = some (.cells #[.int .u8 t400, .int .u32 t401, .string t402, .int .u32 t403] 59 (0, 0))) := ⟨bs_⟩
               have n4_ : Aside0 ((((((w43.setCell ⟨gb413, 0, none⟩ (.int .u8 t407)).setCell ⟨gb413, 1, none⟩ (.int .u16 t408)).setCell ⟨gb413, 2, none⟩ (.int .u32 t409)).setCell ⟨gb413, 3, none⟩ (.int .u32 t410)).setCell ⟨gb413, 4, none⟩ (.string t411)).heap[gb413]? = some (.cells #[.int .u8 t407, .int .u16 t408, .int .u32 t409, .int .u32 t410, .string t411] 31 (0, 0))) := ⟨bs_⟩
               have n5_ : Aside0 (Below w.heap.size w (((((w43.setCell ⟨gb413, 0, none⟩ (.int .u8 t407)).setCell ⟨gb413, 1, none⟩ (.int .u16 t408)).setCell ⟨gb413, 2, none⟩ (.int .u32 t409)).setCell ⟨gb413, 3, none⟩ (.int .u32 t410)).setCell ⟨gb413, 4, none⟩ (.string t411))) := ⟨bel_⟩
               (try clear HO_8)
               (try clear BK397)
               (try clear BK399)
               (try clear BK405)
               (try clear BK413)
               (try clear HB)
               generalize (((((w43.setCell ⟨gb413, 0, none⟩ (.int .u8 t407)).setCell ⟨gb413, 1, none⟩ (.int .u16 t408)).setCell ⟨gb413, 2, none⟩ (.int .u32 t409)).setCell ⟨gb413, 3, none⟩ (.int .u32 t410)).setCell ⟨gb413, 4, none⟩ (.string t411)) = w48 at n0_ n1_ n2_ n3_ n4_ n5_ ⊢
               have HO_8 := n0_
               have BK397 := n1_
               have BK399 := n2_
               have BK405 := n3_
               have BK413 := n4_
               have HB := n5_
               clear n0_ n1_ n2_ n3_ n4_ n5_
               replace HO_8 := ak_ (Kd.R_drew HO_8.out)
               replace BK397 := ak_ (blk_drew BK397.out)
               replace BK399 := ak_ (blk_drew BK399.out)
               replace BK405 := ak_ (blk_drew BK405.out)
               replace BK413 := ak_ (blk_drew BK413.out)
               replace HB := ak_ (below_drew1 HB.out)
               refine start_ (n := 11) (S := fun w' => w'.cell? ⟨gb405, 0, none⟩ = some (.int .u8 t400) ∧ w'.cell? ⟨gb405, 1, none⟩ = some (.int .u32 t401) ∧ w'.cell? ⟨gb405, 2, none⟩ = some (.string t402) ∧ w'.cell? ⟨gb405, 3, none⟩ = some (.int .u32 t403) ∧ w'.cell? ⟨gb399, 0, none⟩ = some (.string ((rd_T56 l0 x33_3).f0)) ∧ w'.cell? ⟨gb399, 1, none⟩ = some (.string ((rd_T56 l0 x33_3).f1)) ∧ w'.cell? ⟨gb413, 0, none⟩ = some (.int .u8 t407) ∧ w'.cell? ⟨gb413, 1, none⟩ = some (.int .u16 t408) ∧ w'.cell? ⟨gb413, 2, none⟩ = some (.int .u32 t409) ∧ w'.cell? ⟨gb413, 3, none⟩ = some (.int .u32 t410) ∧ w'.cell? ⟨gb413, 4, none⟩ = some (.string t411)) (ds := []) #[false, false, false, false, false, false, false, false, false, false, false] (by kernel_rfl) rfl rfl hc_ (fun hHeld => ?_); refine with_tabW cambiumref14_List.tab13 cambiumref14_List.bits13 (fun HT_ HW_ => ?_)
               generalize w48.drew = w49 at HO_8 BK397 BK399 BK405 BK413 HB hHeld ⊢
               refine pu_ 0 59 ?_
               refine pu_ 1 60 ?_
               refine pu_ 5 64 ?_
               refine tk11_ 2 61 ?_
               refine tk11_ 3 62 ?_
               refine tk11_ 6 65 ?_
               refine on_ 4 63 (fun K hK => ?_)
               refine goes_ Tryz.func27 (by kernel_rfl) rfl #[.agg #[.string ((rd_T56 l0 x33_3).f0), .string ((rd_T56 l0 x33_3).f1)]] (by rfl) rfl rfl (by (try simp only [List.map_toArray, List.map_cons, List.map_nil]); first | done | rfl | (simp only [List.length_drop, List.length_take]; rfl)) ?_
               with_reducible refine (cambiumref14_named.calls kj16 ((rd_T56 l0 x33_3).f0) ((rd_T56 l0 x33_3).f1) t414 _ A36.out).mono ?_
               rintro e w50 ⟨rfl, hb⟩
               refine ⟨_, rfl, ?_⟩
               replace HO_8 := rb_ HO_8 hb
               replace BK397 := kb_ BK397 hb
               replace BK399 := kb_ BK399 hb
               replace BK405 := kb_ BK405 hb
               replace BK413 := kb_ BK413 hb
               replace HB := hb_ hb
               (try clear hb)
               (try clear hb2)
               (try clear hk)
               (try clear hi)
               refine hK.out _ _ hc_ (fun hHeld => ?_)
               clear hK K
               refine nm_ 63 ?_
               refine pu_ 7 66 ?_
               refine on_ 8 67 (fun K hK => ?_)
               refine value_ (w1 := ?_) (v := ?_) (by rfl) rfl ?_ ?_
               rotate_left 2
               ·go_simp
                constructor
                ·rfl
                rfl
               refine hK.out _ _ ⟨(blk_cell (blk_alloc BK405.out _) 0).trans rfl, (blk_cell (blk_alloc BK405.out _) 1).trans rfl, (blk_cell (blk_alloc BK405.out _) 2).trans rfl, (blk_cell (blk_alloc BK405.out _) 3).trans rfl, (blk_cell (blk_alloc BK399.out _) 0).trans rfl, (blk_cell (blk_alloc BK399.out _) 1).trans rfl, (blk_cell (blk_alloc BK413.out _) 0).trans rfl, (blk_cell (blk_alloc BK413.out _) 1).trans rfl, (blk_cell (blk_alloc BK413.out _) 2).trans rfl, (blk_cell (blk_alloc BK413.out _) 3).trans rfl, (blk_cell (blk_alloc BK413.out _) 4).trans rfl⟩ (fun hHeld => ?_)
               clear hK K
               refine nm_ 67 ?_
               refine on_ 9 68 (fun K hK => ?_)
               refine Kd.R_append_step k43 (w0 := w) w.heap.size (by rfl) (.tmp 59) (.tmp 67) 34 43 (.agg #[(.string ⟨#[]⟩), (.int .u32 0), (.int .u8 0)]) 24 rfl Tryz.underlying34 info43 rfl (by decide) (by omega) u8 x8_3 (⟨t402, t414, t407⟩ : S43) [.string t402, .int .u32 t414, .int .u8 t407] (fun _ => True) (fun _ => False) rfl rfl ?aP (fun _ hk => hk.elim) ?aF ?aO ?aB ?aS ?aL ?_
               (case aP => exact k43_mkM _ _ _ (⟨t402, t414, t407⟩ : S43))
               (case aB => exact bel_)
               (case aF => exact (fun _ _ => trivial))
               (case aO => exact (ra_ HO_8))
               (case aS => exact (below_size bel_))
               (case aL => have := LMc37.out; omega)
               intro v416 w51 ho hb hg hat
               rw [← Ny415.out] at ho
               have HO417 := ak_ (ho)
               replace BK397 := ak_ (blk_grown (bk_ BK397) hg (Kd.R_ne HO_8.out BK397.out (by decide)))
               replace BK399 := ak_ (blk_grown (bk_ BK399) hg (Kd.R_ne HO_8.out BK399.out (by decide)))
               replace BK405 := ak_ (blk_grown (bk_ BK405) hg (Kd.R_ne HO_8.out BK405.out (by decide)))
               replace BK413 := ak_ (blk_grown (bk_ BK413) hg (Kd.R_ne HO_8.out BK413.out (by decide)))
               replace HB := ak_ (hb)
               clear HO_8
               clear ho hb hg hat
               refine hK.out _ _ hc_ (fun hHeld => ?_)
               clear hK K
               refine nm_ 68 ?_
               refine pu_ 10 8 ?_
               refine done_ (done_of HT_.out (by kernel_rfl)) ?_
               try go_wp2
               go_roundg kj16
               case measure => have := HJ3.out; have := HJ9.out; have := HK3.out; have := HJ16.out; omega
               case rel => exact ⟨(y415), (wrap64 (x33_3 + 1)), rfl, H', ⟨by have := HJ3.out; have := HJ9.out; have := HK3.out; have := HJ16.out; omega⟩, ⟨ra_ HO417⟩, ⟨bk_ BK397⟩, ⟨bel_⟩⟩
              rw [if_neg c37] at H
              exact absurd H (by simp)
             replace c33 := Bool.eq_false_iff.mpr c33
             subst c33
             rw [if_neg (show ¬ (false = true) by decide)] at H
             have H' := ak_ H
             clear H
             go_wp2
             go_roundg kj16
             case measure => have := HJ3.out; have := HJ9.out; have := HK3.out; have := HJ16.out; omega
             case rel => exact ⟨(x8_3), (wrap64 (x33_3 + 1)), rfl, H', ⟨by have := HJ3.out; have := HJ9.out; have := HK3.out; have := HJ16.out; omega⟩, ⟨ra_ HO_8⟩, ⟨bk_ BK397⟩, ⟨bel_⟩⟩
          rw [if_neg c15] at H
          exact absurd H (by simp)
         rw [if_neg c14] at H
         exact absurd H (by simp)
        rw [if_neg c13] at H
        have c13b0 : decide (x33_3 < (l0.length : Int)) = false := decide_eq_false c13
        clear c13
        simp only [Option.some.injEq, Prod.mk.injEq] at H
        obtain ⟨rfl, rfl⟩ := H
        go_wp2
        go_ret2
        exact ⟨_, rfl, by (with_reducible repeat (first | apply Kd.R_alloc | apply Kd.R_drewN | apply Kd.R_drew)); exact HO_8.out, bel_⟩
     rw [if_neg c12] at H
     have c12b0 : (x7_9 == 0) = false := beq_eq_false_iff_ne.mpr c12
     have c12b1 : (x7_9 != 0) = true := bne_iff_ne.mpr c12
     simp only [Option.some.injEq, Prod.mk.injEq] at H
     obtain ⟨rfl, rfl⟩ := H
     go_wp2
     go_ret2
     exact ⟨_, rfl, by first | exact Kd.R_nil _ _ _ _ _ | exact Kd.N_nil _ _ _ _ _ | exact Kd.V_nil _ _ _ _ _ | exact Kd.Q_nil _ _ _ _ _ | exact Kd.S_nil _ _ _ _ _, bel_⟩
def cambiumref14_Next.l0 : Nat → List (S56) → Int → Option (Int × Int)
 | 0, _, _ => none
 | k + 1, x0, x4 => (cambiumref14_inode.f k x0 x4).bind fun bt419 => (if bt419.2.2.2.2.2 = true then (cambiumref14_Next.l0 k x0 ((x4 + 1) % 4294967296)) else (some (x4, 0)))
def cambiumref14_Next.f (k : Nat) (l0 : List (S56)) : Option (Int × Int) := (cambiumref14_Check.f k l0).bind fun t418 => (if t418 = 0 then (cambiumref14_Next.l0 k l0 2) else (some (0, 9)))
theorem cambiumref14_Next.mono_l : ∀ k, (∀ y0 y1, LeO (cambiumref14_Next.l0 k y0 y1) (cambiumref14_Next.l0 (k + 1) y0 y1))
 | 0 => by intros; intro r h; simp [cambiumref14_Next.l0] at h
 | k + 1 => by
  have ih0 := cambiumref14_Next.mono_l k
  intros
  unfold cambiumref14_Next.l0
  repeat' (first | (with_reducible first | exact ih0 _ _ | exact cambiumref14_Check.mono _ _ | exact cambiumref14_inode.mono _ _ _ | exact LeO.refl _ | exact LeO.none _ | refine LeO.ite ?_ ?_ | refine LeO.bind ?_ (fun _ => ?_)))
theorem cambiumref14_Next.mono : ∀ a0 k, LeO (cambiumref14_Next.f k a0) (cambiumref14_Next.f (k + 1) a0) := by
 intro a0 k
 have ih0 := cambiumref14_Next.mono_l k
 unfold cambiumref14_Next.f
 repeat' (first | (with_reducible first | exact ih0 _ _ | exact cambiumref14_Check.mono _ _ | exact cambiumref14_inode.mono _ _ _ | exact LeO.refl _ | exact LeO.none _ | refine LeO.ite ?_ ?_ | refine LeO.bind ?_ (fun _ => ?_)))
set_option maxHeartbeats 8000000 in
set_option maxRecDepth 100000 in
theorem cambiumref14_Next.calls (k : Nat) (A0 : Option Addr) (c0 : Nat) (l0 : List (S56)) (r1 : Int) (r2 : Int) (w : World) (hr0 : Kd.C k56 w A0 l0.length l0) (hc0 : l0.length ≤ c0) (h : cambiumref14_Next.f k l0 = some (r1, r2)) :
  Calls Tryz.prog 11 #[.slice A0 l0.length c0] w fun e w' => e = .returned (.tuple #[.int .u32 r1, .int .i64 r2]) ∧ Below w.heap.size w w' := by
 have hu31 := Tryz.underlying31
 have HR0 := ak_ hr0
 have HC0 := ak_ hc0
 clear hr0 hc0
 have HB := ak_ (Below.refl w.heap.size w)
 have H : ((cambiumref14_Check.f k l0).bind fun t418 => (if t418 = 0 then (cambiumref14_Next.l0 k l0 2) else (some (0, 9)))) = some (r1, r2) := h
 clear h
 replace H := Option.bind_eq_some_iff.mp H
 obtain ⟨t418, A20, H⟩ := H
 try dsimp only at H
 have A2 := ak_ A20
 clear A20
 by_cases c3 : t418 = 0
 ·rw [if_pos c3] at H
  have c3b0 : (t418 == 0) = true := beq_iff_eq.mpr c3
  have c3b1 : (t418 != 0) = false := bne_eq_false_iff_eq.mpr c3
  clear c3
  have H' := ak_ H
  clear H
  go_enter Tryz.func11, Tryz.ntmps11
  go_wp2_with (first | ((with_reducible refine gate_callee (f := 14) rfl ?_); refine gl_ (some 8) Tryz.func14 #[.slice A0 l0.length c0] ?_; (with_reducible refine (cambiumref14_Check.calls k _ _ l0 t418 _ ?side1 ?side2 A2.out).mono ?_); (case side1 => repeat (first | exact HR0.out | (with_reducible refine Kd.C_alloc ?_ _) | (with_reducible refine Kd.C_drewN ?_ _) | (with_reducible refine Kd.C_drew ?_))); (case side2 => exact HC0.out); rintro e w4 ⟨rfl, hb⟩; refine ⟨_, rfl, ?_⟩; replace HB := hb_ hb; (try clear hb)))
  go_loopg [4] k (fun kq v4 w' => ∃ (x4_1 : Int), v4 = .int .u32 x4_1 ∧ Aside0 (cambiumref14_Next.l0 kq l0 x4_1 = some (r1, r2)) ∧ Aside0 (kq ≤ k) ∧ Aside0 (Below w.heap.size w w'))
  case atStart => exact ⟨(2), (by first | rfl | (simp; done) | (simp [*]; done)), H', ⟨Nat.le_refl _⟩, ⟨bel_⟩⟩
  case round =>
   clear H'
   try clear c1
   try clear p2
   try clear c3
   try clear c3b0
   try clear c3b1
   obtain ⟨x4_1, rfl, HA, HK1, HB⟩ := hrel
   cases gk with
   | zero => exact absurd HA.out (by simp [cambiumref14_Next.l0])
   | succ k1 =>
    have H := HA.out
    clear HA
    simp only [cambiumref14_Next.l0] at H
    replace H := Option.bind_eq_some_iff.mp H
    obtain ⟨⟨t419, t420, t421, t422, t423, t424⟩, A50, H⟩ := H
    try dsimp only at H
    have A5 := ak_ A50
    clear A50
    by_cases c6 : t424 = true
    ·subst c6
     rw [if_pos rfl] at H
     have H' := ak_ H
     clear H
     go_wp2_with (first | ((with_reducible refine gate_callee (f := 21) rfl ?_); refine gl_ (some 13) Tryz.func21 #[.slice A0 l0.length c0, .int .u32 x4_1] ?_; (with_reducible refine (cambiumref14_inode.calls k1 _ _ l0 x4_1 t419 t420 t421 t422 t423 true _ ?side1 ?side2 A5.out).mono ?_); (case side1 => exact cb_ HR0); (case side2 => exact HC0.out); rintro e w7 ⟨rfl, hb⟩; refine ⟨_, rfl, ?_⟩; replace HB := hb_ hb; (try clear hb)) | ((with_reducible refine gate_dst (N := 5) rfl ?_); refine bx_ (N := 5) (cs := #[.int .u8 0, .int .u16 0, .int .u32 0, .int .u32 0, .string (⟨#[]⟩ : ByteArray)]) (t := 31) ?_; intro gb425 hg w8 hbox hb; have BK425 := ak_ (hbox); have GW425 := ge_ hg; have GE425 := ge_ hg; replace HB := hb_ hb; clear hb hbox hg; obtain ⟨hcz9_0, hcz9_1, hcz9_2, hcz9_3, hcz9_4⟩ := cl5_ BK425; obtain ⟨hfz9_0, hfz9_1, hfz9_2, hfz9_3, hfz9_4⟩ := fz5_ BK425))
     go_roundg k1
     case measure => have := HK1.out; omega
     case rel => exact ⟨((x4_1 + 1) % 4294967296), (by first | rfl | (simp; done) | (simp [*]; done)), H', ⟨by have := HK1.out; omega⟩, ⟨bel_⟩⟩
    replace c6 := Bool.eq_false_iff.mpr c6
    subst c6
    rw [if_neg (show ¬ (false = true) by decide)] at H
    simp only [Option.some.injEq, Prod.mk.injEq] at H
    obtain ⟨rfl, rfl⟩ := H
    go_wp2_with (first | ((with_reducible refine gate_callee (f := 21) rfl ?_); refine gl_ (some 13) Tryz.func21 #[.slice A0 l0.length c0, .int .u32 x4_1] ?_; (with_reducible refine (cambiumref14_inode.calls k1 _ _ l0 x4_1 t419 t420 t421 t422 t423 false _ ?side1 ?side2 A5.out).mono ?_); (case side1 => exact cb_ HR0); (case side2 => exact HC0.out); rintro e w10 ⟨rfl, hb⟩; refine ⟨_, rfl, ?_⟩; replace HB := hb_ hb; (try clear hb)) | ((with_reducible refine gate_dst (N := 5) rfl ?_); refine bx_ (N := 5) (cs := #[.int .u8 0, .int .u16 0, .int .u32 0, .int .u32 0, .string (⟨#[]⟩ : ByteArray)]) (t := 31) ?_; intro gb425 hg w11 hbox hb; have BK425 := ak_ (hbox); have GW425 := ge_ hg; have GE425 := ge_ hg; replace HB := hb_ hb; clear hb hbox hg; obtain ⟨hcz12_0, hcz12_1, hcz12_2, hcz12_3, hcz12_4⟩ := cl5_ BK425; obtain ⟨hfz12_0, hfz12_1, hfz12_2, hfz12_3, hfz12_4⟩ := fz5_ BK425))
    go_ret2
    exact ⟨by first | rfl | (simp [errW_none, errW_some] <;> rfl) | (simp [*, errW_none, errW_some] <;> rfl), bel_⟩
 rw [if_neg c3] at H
 have c3b0 : (t418 == 0) = false := beq_eq_false_iff_ne.mpr c3
 have c3b1 : (t418 != 0) = true := bne_iff_ne.mpr c3
 simp only [Option.some.injEq, Prod.mk.injEq] at H
 obtain ⟨rfl, rfl⟩ := H
 go_enter Tryz.func11, Tryz.ntmps11
 go_wp2_with (first | ((with_reducible refine gate_callee (f := 14) rfl ?_); refine gl_ (some 8) Tryz.func14 #[.slice A0 l0.length c0] ?_; (with_reducible refine (cambiumref14_Check.calls k _ _ l0 t418 _ ?side1 ?side2 A2.out).mono ?_); (case side1 => repeat (first | exact HR0.out | (with_reducible refine Kd.C_alloc ?_ _) | (with_reducible refine Kd.C_drewN ?_ _) | (with_reducible refine Kd.C_drew ?_))); (case side2 => exact HC0.out); rintro e w13 ⟨rfl, hb⟩; refine ⟨_, rfl, ?_⟩; replace HB := hb_ hb; (try clear hb)))
 go_ret2
 exact ⟨by first | rfl | (simp [errW_none, errW_some] <;> rfl) | (simp [*, errW_none, errW_some] <;> rfl), bel_⟩
mutual
def cambiumref14_Walk.l0 : Nat → List (S56) → Bool → Int → Int → List ByteArray → Option (Int × Int)
 | 0, _, _, _, _, _ => none
 | k + 1, x0, x2, x8, x9, x10 => if (x10.length : Int) > 0 then ((cambiumref14_inode.f k x0 x8).bind fun bt351 => (if bt351.1 = 1 then (if 0 < (x10.length : Int) then ((cambiumref14_Entry.f k x0 x8 (rdOf ByteArray.empty x10 0)).bind fun t359 => (if t359 = 0 then (some (0, 5)) else (if 1 ≤ (x10.length : Int) then ((some (x10.drop (1 : Int).toNat : List ByteArray)).bind fun y360 => ((cambiumref14_inode.f k x0 t359).bind fun bt363 => (if bt363.1 = 3 then (if (y360.length : Int) = 0 then (cambiumref14_Walk.j1 k x0 x2 t359 x9 y360 (!x2) bt363.1 bt363.2.1 bt363.2.2.1 bt363.2.2.2.1 bt363.2.2.2.2.1) else (cambiumref14_Walk.j1 k x0 x2 t359 x9 y360 false bt363.1 bt363.2.1 bt363.2.2.1 bt363.2.2.2.1 bt363.2.2.2.2.1)) else (cambiumref14_Walk.j1 k x0 x2 t359 x9 y360 true bt363.1 bt363.2.1 bt363.2.2.1 bt363.2.2.2.1 bt363.2.2.2.2.1)))) else (none)))) else (none)) else (some (0, 12)))) else (some (x8, 0))
def cambiumref14_Walk.j1 : Nat → List (S56) → Bool → Int → Int → List ByteArray → Bool → Int → Int → Int → Int → ByteArray → Option (Int × Int)
 | 0, _, _, _, _, _, _, _, _, _, _, _ => none
 | k + 1, x0, x2, x8, x9, x10, x62, x358000, x358001, x358002, x358003, x358004 => if x62 = true then (cambiumref14_Walk.l0 k x0 x2 x8 x9 x10) else (if x9 = 8 then (some (0, 15)) else ((cambiumref11_Split.f k x358004).bind fun bt369 => (if bt369.2 = 0 then ((some (([] : List ByteArray) : List ByteArray)).bind fun y373 => (if y373.length + bt369.1.length < 8796093022208 then ((some (y373 ++ bt369.1 : List ByteArray)).bind fun y376 => (if y376.length + x10.length < 8796093022208 then (cambiumref14_Walk.l0 k x0 x2 1 (wrap64 (x9 + 1)) (y376 ++ x10)) else (none))) else (none))) else (some (0, bt369.2)))))
end
def cambiumref14_Walk.f (k : Nat) (l0 : List (S56)) (l1 : List ByteArray) (a2 : Bool) : Option (Int × Int) := (cambiumref14_Check.f k l0).bind fun t344 => (if t344 = 0 then ((some (([] : List ByteArray) : List ByteArray)).bind fun y345 => (if y345.length + l1.length < 8796093022208 then (cambiumref14_Walk.l0 k l0 a2 1 0 (y345 ++ l1)) else (none))) else (some (0, 9)))
theorem cambiumref14_Walk.mono_l : ∀ k, (∀ y0 y1 y2 y3 y4, LeO (cambiumref14_Walk.l0 k y0 y1 y2 y3 y4) (cambiumref14_Walk.l0 (k + 1) y0 y1 y2 y3 y4)) ∧ (∀ y0 y1 y2 y3 y4 y5 y6 y7 y8 y9 y10, LeO (cambiumref14_Walk.j1 k y0 y1 y2 y3 y4 y5 y6 y7 y8 y9 y10) (cambiumref14_Walk.j1 (k + 1) y0 y1 y2 y3 y4 y5 y6 y7 y8 y9 y10))
 | 0 => by
  refine ⟨?_, ?_⟩ <;> (intros; intro r h; simp [cambiumref14_Walk.l0, cambiumref14_Walk.j1] at h)
 | k + 1 => by
  obtain ⟨ih0, ih1⟩ := cambiumref14_Walk.mono_l k
  refine ⟨?_, ?_⟩ <;> (intros; (first | unfold cambiumref14_Walk.l0 | unfold cambiumref14_Walk.j1); repeat' (first | (with_reducible first | exact ih0 _ _ _ _ _ | exact ih1 _ _ _ _ _ _ _ _ _ _ _ | exact cambiumref11_Split.mono _ _ | exact cambiumref14_Check.mono _ _ | exact cambiumref14_Entry.mono _ _ _ _ | exact cambiumref14_inode.mono _ _ _ | exact LeO.refl _ | exact LeO.none _ | refine LeO.ite ?_ ?_ | refine LeO.bind ?_ (fun _ => ?_))))
theorem cambiumref14_Walk.mono : ∀ a0 a1 a2 k, LeO (cambiumref14_Walk.f k a0 a1 a2) (cambiumref14_Walk.f (k + 1) a0 a1 a2) := by
 intro a0 a1 a2 k
 obtain ⟨ih0, ih1⟩ := cambiumref14_Walk.mono_l k
 unfold cambiumref14_Walk.f
 repeat' (first | (with_reducible first | exact ih0 _ _ _ _ _ | exact ih1 _ _ _ _ _ _ _ _ _ _ _ | exact cambiumref11_Split.mono _ _ | exact cambiumref14_Check.mono _ _ | exact cambiumref14_Entry.mono _ _ _ _ | exact cambiumref14_inode.mono _ _ _ | exact LeO.refl _ | exact LeO.none _ | refine LeO.ite ?_ ?_ | refine LeO.bind ?_ (fun _ => ?_)))
set_option maxHeartbeats 64000000 in
set_option maxRecDepth 100000 in
theorem cambiumref14_Walk.calls (k : Nat) (A0 : Option Addr) (c0 : Nat) (l0 : List (S56)) (A1 : Option Addr) (c1 : Nat) (l1 : List ByteArray) (a2 : Bool) (r1 : Int) (r2 : Int) (w : World) (hr0 : Kd.C k56 w A0 l0.length l0) (hc0 : l0.length ≤ c0) (hr1 : Kd.C Kd.string w A1 l1.length l1) (hc1 : l1.length ≤ c1) (h : cambiumref14_Walk.f k l0 l1 a2 = some (r1, r2)) :
  Calls Tryz.prog 5 #[.slice A0 l0.length c0, .slice A1 l1.length c1, .bool a2] w fun e w' => e = .returned (.tuple #[.int .u32 r1, .int .i64 r2]) ∧ Below w.heap.size w w' := by
 have hu31 := Tryz.underlying31
 have HR0 := ak_ hr0
 have HC0 := ak_ hc0
 clear hr0 hc0
 have HR1 := ak_ hr1
 have HC1 := ak_ hc1
 clear hr1 hc1
 have HB := ak_ (Below.refl w.heap.size w)
 have H : ((cambiumref14_Check.f k l0).bind fun t344 => (if t344 = 0 then ((some (([] : List ByteArray) : List ByteArray)).bind fun y345 => (if y345.length + l1.length < 8796093022208 then (cambiumref14_Walk.l0 k l0 a2 1 0 (y345 ++ l1)) else (none))) else (some (0, 9)))) = some (r1, r2) := h
 clear h
 replace H := Option.bind_eq_some_iff.mp H
 obtain ⟨t344, A40, H⟩ := H
 try dsimp only at H
 have A4 := ak_ A40
 clear A40
 by_cases c5 : t344 = 0
 ·rw [if_pos c5] at H
  have c5b0 : (t344 == 0) = true := beq_iff_eq.mpr c5
  have c5b1 : (t344 != 0) = false := bne_eq_false_iff_eq.mpr c5
  clear c5
  obtain ⟨y345, hy345⟩ : ∃ y_ : List ByteArray, y_ = (([] : List ByteArray)) := ⟨_, rfl⟩
  replace H : (if y345.length + l1.length < 8796093022208 then (cambiumref14_Walk.l0 k l0 a2 1 0 (y345 ++ l1)) else (none)) = some (r1, r2) := by first | (rw [hy345]; with_reducible exact H) | (have H2_ := (Option.bind_some _ _).symm.trans H; rw [hy345]; with_reducible exact H2_) | (have H2_ := (Option.bind_some _ _).symm.trans H; with_reducible exact H2_) | with_reducible exact H | (rw [hy345]; exact H) | exact H
  have Ny345 := ak_ hy345
  clear hy345
  by_cases c6 : y345.length + l1.length < 8796093022208
  ·rw [if_pos c6] at H
   have LMc6 := ak_ c6
   clear c6
   obtain ⟨y348, hy348⟩ : ∃ y_ : List ByteArray, y_ = (y345 ++ l1) := ⟨_, rfl⟩
   replace H : (cambiumref14_Walk.l0 k l0 a2 1 0 y348) = some (r1, r2) := by first | (rw [hy348]; with_reducible exact H) | (have H2_ := (Option.bind_some _ _).symm.trans H; rw [hy348]; with_reducible exact H2_) | (have H2_ := (Option.bind_some _ _).symm.trans H; with_reducible exact H2_) | with_reducible exact H | (rw [hy348]; exact H) | exact H
   have Ny348 := ak_ hy348
   clear hy348
   have H' := ak_ H
   clear H
   go_enter Tryz.func5, Tryz.ntmps5
   go_wp2_with (first | ((with_reducible refine gate_callee (f := 14) rfl ?_); refine gl_ (some 17) Tryz.func14 #[.slice A0 l0.length c0] ?_; (with_reducible refine (cambiumref14_Check.calls k _ _ l0 t344 _ ?side1 ?side2 A4.out).mono ?_); (case side1 => repeat (first | exact HR0.out | (with_reducible refine Kd.C_alloc ?_ _) | (with_reducible refine Kd.C_drewN ?_ _) | (with_reducible refine Kd.C_drew ?_))); (case side2 => exact HC0.out); rintro e w7 ⟨rfl, hb⟩; refine ⟨_, rfl, ?_⟩; replace HB := hb_ hb; (try clear hb)) | ((with_reducible refine gate_dst (N := 19) rfl ?_); (try (refine gate_guard (by rfl) ?_; dsimp only)); refine Kd.R_lit Kd.string _ 9 ?hg (N := 19) ?hd (xs := ([] : List ByteArray)) (inner := []) (ok := fun _ => True) (okp := fun _ => True) ?hr ?hp (fun _ hk => hk) trivial (Below.refl _ _) (Nat.le_refl _) (by simp) ?_; (case hd => rfl); (case hg => rfl); (case hr => first | (go_simp; done) | (go_simp; rfl)); (case hp => exact (Reps.none _ _)); intro v346 w8 ho9 hb hg_ hnew_; clear hg_ hnew_; (first | rw [← Ny345.out] at ho9 | (simp only [Int.reduceToNat] at ho9; rw [← Ny345.out] at ho9)); have HO347 := rl_ ho9; replace HB := hb_ hb; clear hb ho9) | ((with_reducible refine gate_builtin (b := .append) (xs := #[.tmp 19, .tmp 20]) rfl ?_); (try (refine gate_guard (by rfl) ?_; dsimp only)); at_builtin; refine Kd.R_append_rows Kd.string (w0 := w) w.heap.size rfl (.tmp 19) (.tmp 20) 23 9 (.string ⟨#[]⟩) 16 rfl Tryz.underlying23 info9 rfl (by decide) (by omega) v346 y345 l1 _ _ _ (fun _ => True) (fun _ => False) rfl rfl ?aO ?aR (fun _ _ h => h) (fun _ h => h.elim) ?aF ?aB ?aS ?aL ?_; (case aR => repeat (first | exact (Kd.C_below HR1.out HB.out) | (with_reducible refine Kd.C_alloc ?_ _) | (with_reducible refine Kd.C_drewN ?_ _) | (with_reducible refine Kd.C_drew ?_))); (case aB => exact bel_); (case aF => exact (fun _ _ => trivial)); (case aO => exact (ra_ HO347)); (case aS => exact (below_size bel_)); (case aL => have := LMc6.out; omega); intro v349 w10 ho hb hg hat; rw [← Ny348.out] at ho; have HO350 := ak_ (ho); replace HB := ak_ (hb); clear HO347; clear ho hb hg hat))
   go_loopg [8, 9, 10] k (fun kq v8 v9 v10 w' => ∃ (x8_1 : Int) (x9_1 : Int) (x10_1 : List ByteArray), v8 = .int .u32 x8_1 ∧ v9 = .int .i64 x9_1 ∧ Aside0 (cambiumref14_Walk.l0 kq l0 a2 x8_1 x9_1 x10_1 = some (r1, r2)) ∧ Aside0 (kq ≤ k) ∧ Aside0 (Kd.Q Kd.string 9 w' w.heap.size (fun _ => True) v10 x10_1) ∧ Aside0 (Below w.heap.size w w'))
   case atStart => exact ⟨(1), (0), (y348), rfl, rfl, H', ⟨Nat.le_refl _⟩, ⟨Kd.Q_of_R (ra_ HO350)⟩, ⟨bel_⟩⟩
   case round =>
    clear H'
    try clear c1
    try clear p2
    try clear c5
    try clear c5b0
    try clear c5b1
    try clear c6
    obtain ⟨x8_1, x9_1, x10_1, rfl, rfl, HA, HK1, HO_10, HB⟩ := hrel
    cases gk with
    | zero => exact absurd HA.out (by simp [cambiumref14_Walk.l0])
    | succ k1 =>
     have H := HA.out
     clear HA
     simp only [cambiumref14_Walk.l0] at H
     refine Or.elim (Classical.em ((x10_1.length : Int) > 0)) (fun c11 => ?p1_) (fun c11 => ?n1_)
     case' p1_ =>
      rw [if_pos c11] at H
      have c11b0 : decide (0 < (x10_1.length : Int)) = true := decide_eq_true c11
      have c11b1 : decide (0 < x10_1.length) = true := decide_eq_true (by omega)
      clear c11
      replace H := Option.bind_eq_some_iff.mp H
      obtain ⟨⟨t351, t352, t353, t354, t355, t356⟩, A120, H⟩ := H
      try dsimp only at H
      have A12 := ak_ A120
      clear A120
      refine Or.elim (Classical.em (t351 = 1)) (fun c13 => ?p2_) (fun c13 => ?n2_)
      case' p2_ =>
       rw [if_pos c13] at H
       have c13b0 : (t351 == 1) = true := beq_iff_eq.mpr c13
       have c13b1 : (t351 != 1) = false := bne_eq_false_iff_eq.mpr c13
       clear c13
       refine Or.elim (Classical.em (0 < (x10_1.length : Int))) (fun c14 => ?p3_) (fun c14 => ?n3_)
       case' p3_ =>
        rw [if_pos c14] at H
        have c14b0 : decide (0 < (x10_1.length : Int)) = true := decide_eq_true c14
        have c14b1 : decide (0 < x10_1.length) = true := decide_eq_true (by omega)
        clear c14
        replace H := Option.bind_eq_some_iff.mp H
        obtain ⟨t359, A150, H⟩ := H
        try dsimp only at H
        have A15 := ak_ A150
        clear A150
        refine Or.elim (Classical.em (t359 = 0)) (fun c16 => ?p4_) (fun c16 => ?n4_)
        case' p4_ =>
         rw [if_pos c16] at H
         have c16b0 : (t359 == 0) = true := beq_iff_eq.mpr c16
         have c16b1 : (t359 != 0) = false := bne_eq_false_iff_eq.mpr c16
         clear c16
         simp only [Option.some.injEq, Prod.mk.injEq] at H
         obtain ⟨rfl, rfl⟩ := H
         obtain ⟨Ao17, co17, eo17, _⟩ := Kd.Q_slice HO_10.out
         subst eo17
         refine ?z1_
        case n4_ =>
         rw [if_neg c16] at H
         have c16b0 : (t359 == 0) = false := beq_eq_false_iff_ne.mpr c16
         have c16b1 : (t359 != 0) = true := bne_iff_ne.mpr c16
         by_cases c22 : 1 ≤ (x10_1.length : Int)
         ·rw [if_pos c22] at H
          have c22b0 := eq_true c22
          have c22b1 : decide (1 ≤ (x10_1.length : Int)) = true := decide_eq_true c22
          clear c22
          obtain ⟨y360, hy360⟩ : ∃ y_ : List ByteArray, y_ = (x10_1.drop (1 : Int).toNat) := ⟨_, rfl⟩
          replace H : ((cambiumref14_inode.f k1 l0 t359).bind fun bt363 => (if bt363.1 = 3 then (if (y360.length : Int) = 0 then (cambiumref14_Walk.j1 k1 l0 a2 t359 x9_1 y360 (!a2) bt363.1 bt363.2.1 bt363.2.2.1 bt363.2.2.2.1 bt363.2.2.2.2.1) else (cambiumref14_Walk.j1 k1 l0 a2 t359 x9_1 y360 false bt363.1 bt363.2.1 bt363.2.2.1 bt363.2.2.2.1 bt363.2.2.2.2.1)) else (cambiumref14_Walk.j1 k1 l0 a2 t359 x9_1 y360 true bt363.1 bt363.2.1 bt363.2.2.1 bt363.2.2.2.1 bt363.2.2.2.2.1))) = some (r1, r2) := by first | (rw [hy360]; with_reducible exact H) | (have H2_ := (Option.bind_some _ _).symm.trans H; rw [hy360]; with_reducible exact H2_) | (have H2_ := (Option.bind_some _ _).symm.trans H; with_reducible exact H2_) | with_reducible exact H | (rw [hy360]; exact H) | exact H
          have Ny360 := ak_ hy360
          clear hy360
          replace H := Option.bind_eq_some_iff.mp H
          obtain ⟨⟨t363, t364, t365, t366, t367, t368⟩, A230, H⟩ := H
          try dsimp only at H
          have A23 := ak_ A230
          clear A230
          have HC24 := ak_ H
          clear H
          obtain ⟨Ao25, co25, eo25, _⟩ := Kd.Q_slice HO_10.out
          subst eo25
          go_upto_region 16 with (first | ((with_reducible refine gate_callee (f := 21) rfl ?_); refine gl_ (some 28) Tryz.func21 #[.slice A0 l0.length c0, .int .u32 x8_1] ?_; (with_reducible refine (cambiumref14_inode.calls k1 _ _ l0 x8_1 t351 t352 t353 t354 t355 t356 _ ?side1 ?side2 A12.out).mono ?_); (case side1 => exact cb_ HR0); (case side2 => exact HC0.out); rintro e w26 ⟨rfl, hb⟩; refine ⟨_, rfl, ?_⟩; have n0_ := ak_ (Kd.Q_below (by (with_reducible repeat (first | apply Kd.Q_alloc | apply Kd.Q_drewN | apply Kd.Q_drew)); exact HO_10.out) hb); have n1_ := ak_ (below_step bel_ hb); clear HO_10; clear HB; have HO_10 := n0_; have HB := n1_; clear n0_ n1_; (try clear hb)) | ((with_reducible refine gate_dst (N := 11) rfl ?_); (try (refine gate_guard (by rfl) ?_; dsimp only)); refine bx_ (N := 11) (cs := #[.int .u8 0, .int .u16 0, .int .u32 0, .int .u32 0, .string (⟨#[]⟩ : ByteArray)]) (t := 31) ?_; intro gb357 hg w27 hbox hb; have n0_ := ak_ (Kd.Q_below (by (with_reducible repeat (first | apply Kd.Q_alloc | apply Kd.Q_drewN | apply Kd.Q_drew)); exact HO_10.out) hb); have n1_ := ak_ (below_step bel_ hb); have n2_ := ak_ (hbox); have n3_ := ak_ ((by rw [hg]; exact (below_size bel_) : w.heap.size ≤ gb357)); have n4_ := ak_ ((by rw [hg]; exact (below_size bel_) : w.heap.size ≤ gb357)); clear HO_10; clear HB; have HO_10 := n0_; have HB := n1_; have BK357 := n2_; have GW357 := n3_; have GE357 := n4_; clear n0_ n1_ n2_ n3_ n4_; clear hb hbox hg; have hcz28_0 : w27.cell? ⟨gb357, 0, none⟩ = some (.int .u8 0) := (blk_cell BK357.out 0).trans rfl; have hcz28_1 : w27.cell? ⟨gb357, 1, none⟩ = some (.int .u16 0) := (blk_cell BK357.out 1).trans rfl; have hcz28_2 : w27.cell? ⟨gb357, 2, none⟩ = some (.int .u32 0) := (blk_cell BK357.out 2).trans rfl; have hcz28_3 : w27.cell? ⟨gb357, 3, none⟩ = some (.int .u32 0) := (blk_cell BK357.out 3).trans rfl; have hcz28_4 : w27.cell? ⟨gb357, 4, none⟩ = some (.string (⟨#[]⟩ : ByteArray)) := (blk_cell BK357.out 4).trans rfl; have hfz28_0 := blk_frozen BK357.out 0; have hfz28_1 := blk_frozen BK357.out 1; have hfz28_2 := blk_frozen BK357.out 2; have hfz28_3 := blk_frozen BK357.out 3; have hfz28_4 := blk_frozen BK357.out 4; have p358 : 0 ≤ (0 : Int) := (by omega); have q358 : 0 < (x10_1.length : Int) := of_decide_eq_true (by first | (with_reducible assumption) | assumption); obtain ⟨ad358, e358, hx358_0⟩ := Kd.at_string (Kd.Q_reads' HO_10.out).2.2 0 p358 q358; cases e358; have qi358 : (0 < x10_1.length) = True := eq_true (by omega); (try rw [show ((0 : Int)).toNat = 0 from rfl] at hx358_0); (try rw [Addr.add_zero'] at hx358_0); have hn358_0 : ad358.block ≠ gb357 := Kd.own_blk (Kd.Q_ne HO_10.out BK357.out (by decide)); have hn358_1 : ad358.block ≠ gb357 := Kd.own_blk (Kd.Q_ne HO_10.out BK357.out (by decide)); have hn358_2 : ad358.block ≠ gb357 := Kd.own_blk (Kd.Q_ne HO_10.out BK357.out (by decide)); have hn358_3 : ad358.block ≠ gb357 := Kd.own_blk (Kd.Q_ne HO_10.out BK357.out (by decide)); have hn358_4 : ad358.block ≠ gb357 := Kd.own_blk (Kd.Q_ne HO_10.out BK357.out (by decide)); replace hx358_0 := (cell_far (p := ⟨gb357, 0, none⟩) (by first | (rw [add_block]; exact hn358_0) | (show (Addr.add _ _).block ≠ _; rw [add_block]; exact hn358_0) | exact hn358_0) (.int .u8 t351)).trans hx358_0; replace hx358_0 := (cell_far (p := ⟨gb357, 1, none⟩) (by first | (rw [add_block]; exact hn358_1) | (show (Addr.add _ _).block ≠ _; rw [add_block]; exact hn358_1) | exact hn358_1) (.int .u16 t352)).trans hx358_0; replace hx358_0 := (cell_far (p := ⟨gb357, 2, none⟩) (by first | (rw [add_block]; exact hn358_2) | (show (Addr.add _ _).block ≠ _; rw [add_block]; exact hn358_2) | exact hn358_2) (.int .u32 t353)).trans hx358_0; replace hx358_0 := (cell_far (p := ⟨gb357, 3, none⟩) (by first | (rw [add_block]; exact hn358_3) | (show (Addr.add _ _).block ≠ _; rw [add_block]; exact hn358_3) | exact hn358_3) (.int .u32 t354)).trans hx358_0; replace hx358_0 := (cell_far (p := ⟨gb357, 4, none⟩) (by first | (rw [add_block]; exact hn358_4) | (show (Addr.add _ _).block ≠ _; rw [add_block]; exact hn358_4) | exact hn358_4) (.string t355)).trans hx358_0; clear hn358_0; clear hn358_1; clear hn358_2; clear hn358_3; clear hn358_4; replace p358 := eq_true p358; replace q358 := eq_true q358) | ((with_reducible refine gate_callee (f := 22) rfl ?_); refine gl_ (some 39) Tryz.func22 #[.slice A0 l0.length c0, .int .u32 x8_1, .string (rdOf ByteArray.empty x10_1 0)] ?_; (with_reducible refine (cambiumref14_Entry.calls k1 _ _ l0 x8_1 (rdOf ByteArray.empty x10_1 0) t359 _ ?side1 ?side2 A15.out).mono ?_); (case side1 => exact Kd.C_below HR0.out bel_); (case side2 => exact HC0.out); rintro e w29 ⟨rfl, hb⟩; refine ⟨_, rfl, ?_⟩; have n0_ := ak_ (Kd.Q_below (by (with_reducible repeat (first | apply Kd.Q_alloc | apply Kd.Q_drewN | apply Kd.Q_drew)); exact (Kd.Q_mono (Kd.Q_far (p := ⟨gb357, 4, none⟩) (Kd.Q_far (p := ⟨gb357, 3, none⟩) (Kd.Q_far (p := ⟨gb357, 2, none⟩) (Kd.Q_far (p := ⟨gb357, 1, none⟩) (Kd.Q_far (p := ⟨gb357, 0, none⟩) (Kd.Q_types HO_10.out BK357.out (by decide)) (fun _ hk => hk.2) (.int .u8 t351)) (fun _ hk => hk.2) (.int .u16 t352)) (fun _ hk => hk.2) (.int .u32 t353)) (fun _ hk => hk.2) (.int .u32 t354)) (fun _ hk => hk.2) (.string t355)) (fun _ h_ => h_.1))) hb); have n1_ := ak_ (blk_below (g := gb357) (o := .cells #[.int .u8 t351, .int .u16 t352, .int .u32 t353, .int .u32 t354, .string t355] 31 (0, 0)) (bs_) hb); have n2_ := ak_ (below_step bel_ hb); clear HO_10; clear BK357; clear HB; have HO_10 := n0_; have BK357 := n1_; have HB := n2_; clear n0_ n1_ n2_; (try clear hb); have q30 : (1 : Int) ≤ ((x10_1.length : Int) : Int) := of_decide_eq_true (by first | (with_reducible assumption) | assumption); obtain ⟨i030, hi030, _, hsz30, _⟩ := info_parts info9; have hcut30 := cut_from (P := Tryz.prog) 23 9 .i64 Tryz.underlying23 hi030 1 hsz30 (some ad358) x10_1.length co25 1 (by omega) q30; have hr30 := Kd.Q_drop (k := (1 : Int).toNat) HO_10.out (by omega); obtain ⟨A30, hA30⟩ : ∃ z_, z_ = (if co25 = (1 : Int).toNat then (some ad358) else ((some ad358) : Option Addr).map (·.add ((1 : Int).toNat * 1))) := ⟨_, rfl⟩; obtain ⟨c30, hc30⟩ : ∃ z_, z_ = co25 - (1 : Int).toNat := ⟨_, rfl⟩; have hy30 : y360.length = x10_1.length - (1 : Int).toNat := (by rw [Ny360.out, List.length_drop]); rw [← Ny360.out] at hr30; rw [← hy30, ← hA30, ← hc30] at hcut30; replace hr30 : Kd.Q Kd.string 9 w29 w.heap.size (fun _ => True) (.slice A30 y360.length c30) y360 := (by rw [hA30, hc30, hy30]; exact hr30); have HE30 : Aside0 ((Value.slice A30 y360.length c30).ownBlock = (.slice (some ad358) x10_1.length co25 : Value).ownBlock) := ⟨by rw [hA30]; split <;> (cases ((some ad358) : Option Addr) <;> rfl)⟩; clear hy30 hi030 hsz30 HO_10 hA30 hc30; have HO362 := ak_ hr30; clear hr30; replace q30 := eq_true q30) | ((with_reducible refine gate_callee (f := 21) rfl ?_); refine gl_ (some 47) Tryz.func21 #[.slice A0 l0.length c0, .int .u32 t359] ?_; (with_reducible refine (cambiumref14_inode.calls k1 _ _ l0 t359 t363 t364 t365 t366 t367 t368 _ ?side1 ?side2 A23.out).mono ?_); (case side1 => exact cb_ HR0); (case side2 => exact HC0.out); rintro e w31 ⟨rfl, hb⟩; refine ⟨_, rfl, ?_⟩; have n0_ := ak_ (Kd.Q_below (by (with_reducible repeat (first | apply Kd.Q_alloc | apply Kd.Q_drewN | apply Kd.Q_drew)); exact HO362.out) hb); have n1_ := ak_ (blk_below (bk_ BK357) hb); have n2_ := ak_ (below_step bel_ hb); clear HO362; clear BK357; clear HB; have HO362 := n0_; have BK357 := n1_; have HB := n2_; clear n0_ n1_ n2_; (try clear hb); have hcz32_0 : w31.cell? ⟨gb357, 0, none⟩ = some (.int .u8 t351) := (blk_cell BK357.out 0).trans rfl; have hcz32_1 : w31.cell? ⟨gb357, 1, none⟩ = some (.int .u16 t352) := (blk_cell BK357.out 1).trans rfl; have hcz32_2 : w31.cell? ⟨gb357, 2, none⟩ = some (.int .u32 t353) := (blk_cell BK357.out 2).trans rfl; have hcz32_3 : w31.cell? ⟨gb357, 3, none⟩ = some (.int .u32 t354) := (blk_cell BK357.out 3).trans rfl; have hcz32_4 : w31.cell? ⟨gb357, 4, none⟩ = some (.string t355) := (blk_cell BK357.out 4).trans rfl; have hfz32_0 := blk_frozen BK357.out 0; have hfz32_1 := blk_frozen BK357.out 1; have hfz32_2 := blk_frozen BK357.out 2; have hfz32_3 := blk_frozen BK357.out 3; have hfz32_4 := blk_frozen BK357.out 4))
          (try simp only [Act.put, List.setIfInBounds_toArray, List.set_cons_zero, List.set_cons_succ])
          go_cut [62] (fun v62 wc => ∃ (kq : Nat) (x62_23 : Bool), v62 = .bool x62_23 ∧ Aside0 (cambiumref14_Walk.j1 kq l0 a2 t359 x9_1 y360 x62_23 t363 t364 t365 t366 t367 = some (r1, r2)) ∧ Aside0 (kq ≤ k1) ∧ Aside0 (Kd.Q Kd.string 9 wc w.heap.size (fun _ => True) (.slice A30 y360.length c30) y360) ∧ Aside0 (wc.heap[gb357]? = some (.cells #[.int .u8 t363, .int .u16 t364, .int .u32 t365, .int .u32 t366, .string t367] 31 (0, 0))) ∧ Aside0 (Below w.heap.size w wc))
          case first =>
           have H := HC24.out
           clear HC24
           refine Or.elim (Classical.em (t363 = 3)) (fun c33 => ?p5_) (fun c33 => ?n5_)
           case' p5_ =>
            rw [if_pos c33] at H
            have c33b0 : (t363 == 3) = true := beq_iff_eq.mpr c33
            have c33b1 : (t363 != 3) = false := bne_eq_false_iff_eq.mpr c33
            clear c33
            (first | rw [c33b0] | (simp only [i64_w, i32_w]; rw [c33b0]) | skip)
            refine Or.elim (Classical.em ((y360.length : Int) = 0)) (fun c34 => ?p6_) (fun c34 => ?n6_)
            case' p6_ =>
             rw [if_pos c34] at H
             have c34b0 : ((y360.length : Int) == 0) = true := beq_iff_eq.mpr c34
             have c34b1 : ((y360.length : Int) != 0) = false := bne_eq_false_iff_eq.mpr c34
             clear c34
             refine ?z3_
            case' n6_ =>
             rw [if_neg c34] at H
             have c34b0 : ((y360.length : Int) == 0) = false := beq_eq_false_iff_ne.mpr c34
             have c34b1 : ((y360.length : Int) != 0) = true := bne_iff_ne.mpr c34
             have c34b2 : ¬ (y360 = []) := fun h_ => c34 (by rw [h_]; rfl)
             refine ?z4_
           case' n5_ =>
            rw [if_neg c33] at H
            have c33b0 : (t363 == 3) = false := beq_eq_false_iff_ne.mpr c33
            have c33b1 : (t363 != 3) = true := bne_iff_ne.mpr c33
            (first | rw [c33b0] | (simp only [i64_w, i32_w]; rw [c33b0]) | skip)
            refine ?z5_
           case p6_ | n6_ | n5_ =>
            have H' := ak_ H
            clear H
            obtain ⟨hcz901_0, hcz901_1, hcz901_2, hcz901_3, hcz901_4⟩ := cl5_ BK357
            obtain ⟨hfz901_0, hfz901_1, hfz901_2, hfz901_3, hfz901_4⟩ := fz5_ BK357
            go_wp2
            go_meet
            case rel => first | (exact ⟨_, (!a2), rfl, H', ⟨by have := HK1.out; first | omega | exact Nat.le_refl _⟩, ⟨by (with_reducible repeat (first | apply Kd.Q_alloc | apply Kd.Q_drewN | apply Kd.Q_drew)); exact Kd.Q_mono (Kd.Q_far (p := ⟨gb357, 4, none⟩) (Kd.Q_far (p := ⟨gb357, 3, none⟩) (Kd.Q_far (p := ⟨gb357, 2, none⟩) (Kd.Q_far (p := ⟨gb357, 1, none⟩) (Kd.Q_far (p := ⟨gb357, 0, none⟩) (Kd.Q_types HO362.out BK357.out (by decide)) (fun _ hk => hk.2) (.int .u8 t363)) (fun _ hk => hk.2) (.int .u16 t364)) (fun _ hk => hk.2) (.int .u32 t365)) (fun _ hk => hk.2) (.int .u32 t366)) (fun _ hk => hk.2) (.string t367)) (fun _ hk => trivial)⟩, ⟨bs_⟩, ⟨bel_⟩⟩) | (exact ⟨_, (false), rfl, H', ⟨by have := HK1.out; first | omega | exact Nat.le_refl _⟩, ⟨by (with_reducible repeat (first | apply Kd.Q_alloc | apply Kd.Q_drewN | apply Kd.Q_drew)); exact Kd.Q_mono (Kd.Q_far (p := ⟨gb357, 4, none⟩) (Kd.Q_far (p := ⟨gb357, 3, none⟩) (Kd.Q_far (p := ⟨gb357, 2, none⟩) (Kd.Q_far (p := ⟨gb357, 1, none⟩) (Kd.Q_far (p := ⟨gb357, 0, none⟩) (Kd.Q_types HO362.out BK357.out (by decide)) (fun _ hk => hk.2) (.int .u8 t363)) (fun _ hk => hk.2) (.int .u16 t364)) (fun _ hk => hk.2) (.int .u32 t365)) (fun _ hk => hk.2) (.int .u32 t366)) (fun _ hk => hk.2) (.string t367)) (fun _ hk => trivial)⟩, ⟨bs_⟩, ⟨bel_⟩⟩) | (exact ⟨_, (true), rfl, H', ⟨by have := HK1.out; first | omega | exact Nat.le_refl _⟩, ⟨by (with_reducible repeat (first | apply Kd.Q_alloc | apply Kd.Q_drewN | apply Kd.Q_drew)); exact Kd.Q_mono (Kd.Q_far (p := ⟨gb357, 4, none⟩) (Kd.Q_far (p := ⟨gb357, 3, none⟩) (Kd.Q_far (p := ⟨gb357, 2, none⟩) (Kd.Q_far (p := ⟨gb357, 1, none⟩) (Kd.Q_far (p := ⟨gb357, 0, none⟩) (Kd.Q_types HO362.out BK357.out (by decide)) (fun _ hk => hk.2) (.int .u8 t363)) (fun _ hk => hk.2) (.int .u16 t364)) (fun _ hk => hk.2) (.int .u32 t365)) (fun _ hk => hk.2) (.int .u32 t366)) (fun _ hk => hk.2) (.string t367)) (fun _ hk => trivial)⟩, ⟨bs_⟩, ⟨bel_⟩⟩)
          case rest =>
           clear HC24
           try clear c1
           try clear c2
           try clear p2
           try clear c3
           try clear p3
           try clear q3
           try clear hx3
           try clear qi3
           try clear c5
           try clear c5b0
           try clear c5b1
           try clear c6
           try clear c11
           try clear c11b0
           try clear c11b1
           try clear c13
           try clear c13b0
           try clear c13b1
           try clear c14
           try clear c14b0
           try clear c14b1
           try clear c16
           try clear c16b0
           try clear c16b1
           try clear c21
           try clear c22
           try clear c22b0
           try clear c22b1
           try clear c30
           try clear q30
           try clear c33
           try clear c33b0
           try clear c33b1
           try clear c34
           try clear c34b0
           try clear c34b1
           try clear c34b2
           try clear p35
           try clear q35
           try clear hx35
           try clear qi35
           try clear hcz20_0
           try clear hcz20_1
           try clear hcz20_2
           try clear hcz20_3
           try clear hcz20_4
           try clear hcz28_0
           try clear hcz28_1
           try clear hcz28_2
           try clear hcz28_3
           try clear hcz28_4
           try clear hcz32_0
           try clear hcz32_1
           try clear hcz32_2
           try clear hcz32_3
           try clear hcz32_4
           try clear hcz35_0
           try clear hcz35_1
           try clear hcz35_2
           try clear hcz35_3
           try clear hcz35_4
           try clear hcz36_0
           try clear hcz36_1
           try clear hcz36_2
           try clear hcz36_3
           try clear hcz36_4
           try clear hcz37_0
           try clear hcz37_1
           try clear hcz37_2
           try clear hcz37_3
           try clear hcz37_4
           try clear hfz20_0
           try clear hfz20_1
           try clear hfz20_2
           try clear hfz20_3
           try clear hfz20_4
           try clear hfz28_0
           try clear hfz28_1
           try clear hfz28_2
           try clear hfz28_3
           try clear hfz28_4
           try clear hfz32_0
           try clear hfz32_1
           try clear hfz32_2
           try clear hfz32_3
           try clear hfz32_4
           try clear hfz35_0
           try clear hfz35_1
           try clear hfz35_2
           try clear hfz35_3
           try clear hfz35_4
           try clear hfz36_0
           try clear hfz36_1
           try clear hfz36_2
           try clear hfz36_3
           try clear hfz36_4
           try clear hfz37_0
           try clear hfz37_1
           try clear hfz37_2
           try clear hfz37_3
           try clear hfz37_4
           try clear hx358_0
           try clear p2
           try clear p358
           try clear q30
           try clear q358
           obtain ⟨kq, x62_23, rfl, HA, HJ23, HO_10, BK357, HB⟩ := hcut
           cases kq with
           | zero => exact absurd HA.out (by simp [cambiumref14_Walk.j1])
           | succ kj23 =>
            have H := HA.out
            clear HA
            simp only [cambiumref14_Walk.j1] at H
            by_cases c38 : x62_23 = true
            ·subst c38
             rw [if_pos rfl] at H
             have H' := ak_ H
             clear H
             go_wp2
             go_roundg kj23
             case measure => have := HK1.out; have := HJ23.out; omega
             case rel => exact ⟨(t359), (x9_1), (y360), rfl, rfl, H', ⟨by have := HK1.out; have := HJ23.out; omega⟩, ⟨by (with_reducible repeat (first | apply Kd.Q_alloc | apply Kd.Q_drewN | apply Kd.Q_drew)); exact HO_10.out⟩, ⟨bel_⟩⟩
            replace c38 := Bool.eq_false_iff.mpr c38
            subst c38
            rw [if_neg (show ¬ (false = true) by decide)] at H
            by_cases c39 : x9_1 = 8
            ·rw [if_pos c39] at H
             have c39b0 : (x9_1 == 8) = true := beq_iff_eq.mpr c39
             have c39b1 : (x9_1 != 8) = false := bne_eq_false_iff_eq.mpr c39
             clear c39
             simp only [Option.some.injEq, Prod.mk.injEq] at H
             obtain ⟨rfl, rfl⟩ := H
             go_wp2
             go_ret2
             exact ⟨rfl, bel_⟩
            rw [if_neg c39] at H
            have c39b0 : (x9_1 == 8) = false := beq_eq_false_iff_ne.mpr c39
            have c39b1 : (x9_1 != 8) = true := bne_iff_ne.mpr c39
            replace H := Option.bind_eq_some_iff.mp H
            obtain ⟨⟨t369, t370⟩, A400, H⟩ := H
            try dsimp only at H
            have A40 := ak_ A400
            clear A400
            by_cases c41 : t370 = 0
            ·rw [if_pos c41] at H
             have c41b0 : (t370 == 0) = true := beq_iff_eq.mpr c41
             have c41b1 : (t370 != 0) = false := bne_eq_false_iff_eq.mpr c41
             clear c41
             obtain ⟨y373, hy373⟩ : ∃ y_ : List ByteArray, y_ = (([] : List ByteArray)) := ⟨_, rfl⟩
             replace H : (if y373.length + t369.length < 8796093022208 then ((some (y373 ++ t369 : List ByteArray)).bind fun y376 => (if y376.length + y360.length < 8796093022208 then (cambiumref14_Walk.l0 kj23 l0 a2 1 (wrap64 (x9_1 + 1)) (y376 ++ y360)) else (none))) else (none)) = some (r1, r2) := by first | (rw [hy373]; with_reducible exact H) | (have H2_ := (Option.bind_some _ _).symm.trans H; rw [hy373]; with_reducible exact H2_) | (have H2_ := (Option.bind_some _ _).symm.trans H; with_reducible exact H2_) | with_reducible exact H | (rw [hy373]; exact H) | exact H
             have Ny373 := ak_ hy373
             clear hy373
             by_cases c42 : y373.length + t369.length < 8796093022208
             ·rw [if_pos c42] at H
              have LMc42 := ak_ c42
              clear c42
              obtain ⟨y376, hy376⟩ : ∃ y_ : List ByteArray, y_ = (y373 ++ t369) := ⟨_, rfl⟩
              replace H : (if y376.length + y360.length < 8796093022208 then (cambiumref14_Walk.l0 kj23 l0 a2 1 (wrap64 (x9_1 + 1)) (y376 ++ y360)) else (none)) = some (r1, r2) := by first | (rw [hy376]; with_reducible exact H) | (have H2_ := (Option.bind_some _ _).symm.trans H; rw [hy376]; with_reducible exact H2_) | (have H2_ := (Option.bind_some _ _).symm.trans H; with_reducible exact H2_) | with_reducible exact H | (rw [hy376]; exact H) | exact H
              have Ny376 := ak_ hy376
              clear hy376
              by_cases c43 : y376.length + y360.length < 8796093022208
              ·rw [if_pos c43] at H
               have LMc43 := ak_ c43
               clear c43
               obtain ⟨y379, hy379⟩ : ∃ y_ : List ByteArray, y_ = (y376 ++ y360) := ⟨_, rfl⟩
               replace H : (cambiumref14_Walk.l0 kj23 l0 a2 1 (wrap64 (x9_1 + 1)) y379) = some (r1, r2) := by first | (rw [hy379]; with_reducible exact H) | (have H2_ := (Option.bind_some _ _).symm.trans H; rw [hy379]; with_reducible exact H2_) | (have H2_ := (Option.bind_some _ _).symm.trans H; with_reducible exact H2_) | with_reducible exact H | (rw [hy379]; exact H) | exact H
               have Ny379 := ak_ hy379
               clear hy379
               have H' := ak_ H
               clear H
               obtain ⟨hcz44_0, hcz44_1, hcz44_2, hcz44_3, hcz44_4⟩ := cl5_ BK357
               obtain ⟨hfz44_0, hfz44_1, hfz44_2, hfz44_3, hfz44_4⟩ := fz5_ BK357
               go_wp2_with (first | ((with_reducible refine gate_callee (f := 23) rfl ?_); refine gl_ (some 70) Tryz.func23 #[.string t367] ?_; (with_reducible refine (cambiumref11_Split.calls kj23 t367 t369 t370 _ A40.out).mono ?_); rintro e w45 ⟨v371, rfl, ho0, hb⟩; refine ⟨_, rfl, ?_⟩; have HO372 := ak_ (Kd.R_lower (Kd.R_new' ho0 (Kd.Q_lt (by (with_reducible repeat (first | apply Kd.Q_alloc | apply Kd.Q_drewN | apply Kd.Q_drew)); exact HO_10.out))) (below_size bel_)); replace HO_10 := ak_ (Kd.Q_elder' (by (with_reducible repeat (first | apply Kd.Q_alloc | apply Kd.Q_drewN | apply Kd.Q_drew)); exact HO_10.out) (Kd.R_base ho0) hb); replace BK357 := kb_ BK357 hb; replace HB := hb_ hb; (try clear hb); (try clear ho0)) | ((with_reducible refine gate_dst (N := 76) rfl ?_); (try (refine gate_guard (by rfl) ?_; dsimp only)); refine Kd.R_lit Kd.string _ 9 ?hg (N := 76) ?hd (xs := ([] : List ByteArray)) (inner := []) (ok := fun _ => True) (okp := fun _ => True) ?hr ?hp (fun _ hk => hk) trivial (Below.refl _ _) (Nat.le_refl _) (by simp) ?_; (case hd => rfl); (case hg => rfl); (case hr => first | (go_simp; done) | (go_simp; rfl)); (case hp => exact (Reps.none _ _)); intro v374 w46 ho47 hb hg_ hnew_; clear hg_ hnew_; (first | rw [← Ny373.out] at ho47 | (simp only [Int.reduceToNat] at ho47; rw [← Ny373.out] at ho47)); have HO375 := ak_ (Kd.R_lower (Kd.R_new' (Kd.R_new' ho47 (Kd.Q_lt (by (with_reducible repeat (first | apply Kd.Q_alloc | apply Kd.Q_drewN | apply Kd.Q_drew)); exact HO_10.out))) (Kd.R_lt (ra_ HO372))) (below_size bel_)); replace HO_10 := ak_ (Kd.Q_elder' (by (with_reducible repeat (first | apply Kd.Q_alloc | apply Kd.Q_drewN | apply Kd.Q_drew)); exact HO_10.out) (Kd.R_base ho47) hb); replace HO372 := ak_ (Kd.R_elder' (ra_ HO372) (Kd.R_base ho47) hb); replace BK357 := kb_ BK357 hb; replace HB := hb_ hb; clear hb ho47; obtain ⟨Ao49, co49, eo49⟩ := Kd.R_slice HO372.out; subst eo49) | ((with_reducible refine gate_builtin (b := .append) (xs := #[.tmp 76, .tmp 77]) rfl ?_); (try (refine gate_guard (by rfl) ?_; dsimp only)); at_builtin; refine Kd.R_append_rows Kd.string (w0 := w) w.heap.size rfl (.tmp 76) (.tmp 77) 23 9 (.string ⟨#[]⟩) 16 rfl Tryz.underlying23 info9 rfl (by decide) (by omega) v374 y373 t369 _ _ _ (fun k_ => some k_ ≠ (.slice A30 y360.length c30 : Value).ownBlock ∧ some k_ ≠ (.slice Ao49 t369.length co49 : Value).ownBlock) (fun _ => False) rfl rfl ?aO ?aR (fun _ _ h => h) (fun _ h => h.elim) ?aF ?aB ?aS ?aL ?_; (case aR => exact cr_ HO372); (case aB => exact bel_); (case aF => exact (fun k_ hk => ⟨Kd.fresh' (Kd.Q_lt (by (with_reducible repeat (first | apply Kd.Q_alloc | apply Kd.Q_drewN | apply Kd.Q_drew)); exact HO_10.out)) k_ hk, Kd.fresh' (Kd.R_lt (ra_ HO372)) k_ hk⟩)); (case aO => exact (by (with_reducible repeat (first | apply Kd.R_alloc | apply Kd.R_drewN | apply Kd.R_drew)); exact Kd.R_mono HO375.out (fun _ hk => ⟨hk.1.2, hk.2⟩))); (case aS => exact (below_size bel_)); (case aL => have := LMc42.out; omega); intro v377 w48 ho hb hg hat; rw [← Ny376.out] at ho; have HO378 := ak_ (ho); replace HO_10 := ak_ (Kd.Q_after (ok := (fun k_ => some k_ ≠ (.slice Ao49 t369.length co49 : Value).ownBlock)) (by (with_reducible repeat (first | apply Kd.Q_alloc | apply Kd.Q_drewN | apply Kd.Q_drew)); exact Kd.Q_mono HO_10.out (fun _ hk => ⟨hk.1.2, hk.2⟩)) hg hat); replace BK357 := ak_ (blk_grown (bk_ BK357) hg (Kd.R_ne HO375.out BK357.out (by decide))); replace HO372 := ak_ (Kd.R_after (ok := (fun k_ => some k_ ≠ (.slice A30 y360.length c30 : Value).ownBlock)) (by (with_reducible repeat (first | apply Kd.R_alloc | apply Kd.R_drewN | apply Kd.R_drew)); exact Kd.R_mono HO372.out (fun _ hk => ⟨hk.1.2, hk.2⟩)) hg hat); replace HB := ak_ (hb); clear HO375; clear ho hb hg hat) | ((with_reducible refine gate_builtin (b := .append) (xs := #[.tmp 78, .tmp 79]) rfl ?_); (try (refine gate_guard (by rfl) ?_; dsimp only)); at_builtin; refine Kd.R_append_rows Kd.string (w0 := w) w.heap.size rfl (.tmp 78) (.tmp 79) 23 9 (.string ⟨#[]⟩) 16 rfl Tryz.underlying23 info9 rfl (by decide) (by omega) v377 y376 y360 _ _ _ (fun k_ => some k_ ≠ (.slice A30 y360.length c30 : Value).ownBlock ∧ some k_ ≠ (.slice Ao49 t369.length co49 : Value).ownBlock) (fun _ => False) rfl rfl ?aO ?aR (fun _ _ h => h) (fun _ h => h.elim) ?aF ?aB ?aS ?aL ?_; (case aR => repeat (first | exact (Kd.Q_reads' HO_10.out).2.2 | (with_reducible refine Kd.C_alloc ?_ _) | (with_reducible refine Kd.C_drewN ?_ _) | (with_reducible refine Kd.C_drew ?_))); (case aB => exact bel_); (case aF => exact (fun k_ hk => ⟨Kd.fresh' (Kd.Q_lt (by (with_reducible repeat (first | apply Kd.Q_alloc | apply Kd.Q_drewN | apply Kd.Q_drew)); exact HO_10.out)) k_ hk, Kd.fresh' (Kd.R_lt (ra_ HO372)) k_ hk⟩)); (case aO => exact (ra_ HO378)); (case aS => exact (below_size bel_)); (case aL => have := LMc43.out; omega); intro v380 w50 ho hb hg hat; rw [← Ny379.out] at ho; have HO381 := ak_ (ho); replace HO_10 := ak_ (Kd.Q_after (ok := (fun k_ => some k_ ≠ (.slice Ao49 t369.length co49 : Value).ownBlock)) (by (with_reducible repeat (first | apply Kd.Q_alloc | apply Kd.Q_drewN | apply Kd.Q_drew)); exact HO_10.out) hg hat); replace BK357 := ak_ (blk_grown (bk_ BK357) hg (Kd.R_ne HO378.out BK357.out (by decide))); replace HO372 := ak_ (Kd.R_after (ok := (fun k_ => some k_ ≠ (.slice A30 y360.length c30 : Value).ownBlock)) (ra_ HO372) hg hat); replace HB := ak_ (hb); clear HO378; clear ho hb hg hat))
               go_roundg kj23
               case measure => have := HK1.out; have := HJ23.out; omega
               case rel => exact ⟨(1), (wrap64 (x9_1 + 1)), (y379), rfl, rfl, H', ⟨by have := HK1.out; have := HJ23.out; omega⟩, ⟨Kd.Q_of_R (by (with_reducible repeat (first | apply Kd.R_alloc | apply Kd.R_drewN | apply Kd.R_drew)); exact Kd.R_mono HO381.out (fun _ hk => trivial))⟩, ⟨bel_⟩⟩
              rw [if_neg c43] at H
              exact absurd H (by simp)
             rw [if_neg c42] at H
             exact absurd H (by simp)
            rw [if_neg c41] at H
            have c41b0 : (t370 == 0) = false := beq_eq_false_iff_ne.mpr c41
            have c41b1 : (t370 != 0) = true := bne_iff_ne.mpr c41
            simp only [Option.some.injEq, Prod.mk.injEq] at H
            obtain ⟨rfl, rfl⟩ := H
            obtain ⟨hcz51_0, hcz51_1, hcz51_2, hcz51_3, hcz51_4⟩ := cl5_ BK357
            obtain ⟨hfz51_0, hfz51_1, hfz51_2, hfz51_3, hfz51_4⟩ := fz5_ BK357
            go_wp2_with (first | ((with_reducible refine gate_callee (f := 23) rfl ?_); refine gl_ (some 70) Tryz.func23 #[.string t367] ?_; (with_reducible refine (cambiumref11_Split.calls kj23 t367 t369 t370 _ A40.out).mono ?_); rintro e w52 ⟨v371, rfl, ho0, hb⟩; refine ⟨_, rfl, ?_⟩; have HO372 := ak_ (Kd.R_lower (Kd.R_new' ho0 (Kd.Q_lt (by (with_reducible repeat (first | apply Kd.Q_alloc | apply Kd.Q_drewN | apply Kd.Q_drew)); exact HO_10.out))) (below_size bel_)); replace HO_10 := ak_ (Kd.Q_elder' (by (with_reducible repeat (first | apply Kd.Q_alloc | apply Kd.Q_drewN | apply Kd.Q_drew)); exact HO_10.out) (Kd.R_base ho0) hb); replace BK357 := kb_ BK357 hb; replace HB := hb_ hb; (try clear hb); (try clear ho0)))
            go_ret2
            exact ⟨rfl, bel_⟩
         rw [if_neg c22] at H
         exact absurd H (by simp)
       case n3_ =>
        rw [if_neg c14] at H
        exact absurd H (by simp)
      case' n2_ =>
       rw [if_neg c13] at H
       have c13b0 : (t351 == 1) = false := beq_eq_false_iff_ne.mpr c13
       have c13b1 : (t351 != 1) = true := bne_iff_ne.mpr c13
       simp only [Option.some.injEq, Prod.mk.injEq] at H
       obtain ⟨rfl, rfl⟩ := H
       obtain ⟨Ao53, co53, eo53, _⟩ := Kd.Q_slice HO_10.out
       subst eo53
       refine ?z2_
     case n1_ =>
      rw [if_neg c11] at H
      have c11b0 : decide (0 < (x10_1.length : Int)) = false := decide_eq_false c11
      have c11b1 : decide (0 < x10_1.length) = false := decide_eq_false (by omega)
      clear c11
      simp only [Option.some.injEq, Prod.mk.injEq] at H
      obtain ⟨rfl, rfl⟩ := H
      obtain ⟨Ao57, co57, eo57, _⟩ := Kd.Q_slice HO_10.out
      subst eo57
      go_wp2
      go_ret2
      exact ⟨rfl, bel_⟩
     case p2_ | n2_ =>
      go_wp2_with (first | ((with_reducible refine gate_callee (f := 21) rfl ?_); refine gl_ (some 28) Tryz.func21 #[.slice A0 l0.length c0, .int .u32 x8_1] ?_; (with_reducible refine (cambiumref14_inode.calls k1 _ _ l0 x8_1 t351 t352 t353 t354 t355 t356 _ ?side1 ?side2 A12.out).mono ?_); (case side1 => exact cb_ HR0); (case side2 => exact HC0.out); rintro e w901 ⟨rfl, hb⟩; refine ⟨_, rfl, ?_⟩; replace HO_10 := ak_ (Kd.Q_below (by (with_reducible repeat (first | apply Kd.Q_alloc | apply Kd.Q_drewN | apply Kd.Q_drew)); exact HO_10.out) hb); replace HB := hb_ hb; (try clear hb)) | ((with_reducible refine gate_dst (N := 11) rfl ?_); (try (refine gate_guard (by rfl) ?_; dsimp only)); refine bx_ (N := 11) (cs := #[.int .u8 0, .int .u16 0, .int .u32 0, .int .u32 0, .string (⟨#[]⟩ : ByteArray)]) (t := 31) ?_; intro gb357 hg w902 hbox hb; have BK357 := ak_ (hbox); have GW357 := ge_ hg; have GE357 := ge_ hg; replace HO_10 := ak_ (Kd.Q_below (by (with_reducible repeat (first | apply Kd.Q_alloc | apply Kd.Q_drewN | apply Kd.Q_drew)); exact HO_10.out) hb); replace HB := hb_ hb; clear hb hbox hg; obtain ⟨hcz903_0, hcz903_1, hcz903_2, hcz903_3, hcz903_4⟩ := cl5_ BK357; obtain ⟨hfz903_0, hfz903_1, hfz903_2, hfz903_3, hfz903_4⟩ := fz5_ BK357; have p358 : 0 ≤ (0 : Int) := (by omega); have q358 : 0 < (x10_1.length : Int) := of_decide_eq_true (by first | (with_reducible assumption) | assumption); obtain ⟨ad358, e358, hx358_0⟩ := Kd.at_string (Kd.Q_reads' HO_10.out).2.2 0 p358 q358; cases e358; have qi358 : (0 < x10_1.length) = True := eq_true (by omega); (try rw [show ((0 : Int)).toNat = 0 from rfl] at hx358_0); (try rw [Addr.add_zero'] at hx358_0); have hn358_0 : ad358.block ≠ gb357 := Kd.own_blk (Kd.Q_ne HO_10.out BK357.out (by decide)); have hn358_1 : ad358.block ≠ gb357 := Kd.own_blk (Kd.Q_ne HO_10.out BK357.out (by decide)); have hn358_2 : ad358.block ≠ gb357 := Kd.own_blk (Kd.Q_ne HO_10.out BK357.out (by decide)); have hn358_3 : ad358.block ≠ gb357 := Kd.own_blk (Kd.Q_ne HO_10.out BK357.out (by decide)); have hn358_4 : ad358.block ≠ gb357 := Kd.own_blk (Kd.Q_ne HO_10.out BK357.out (by decide)); replace hx358_0 := (cell_far (p := ⟨gb357, 0, none⟩) (by first | (rw [add_block]; exact hn358_0) | (show (Addr.add _ _).block ≠ _; rw [add_block]; exact hn358_0) | exact hn358_0) (.int .u8 t351)).trans hx358_0; replace hx358_0 := (cell_far (p := ⟨gb357, 1, none⟩) (by first | (rw [add_block]; exact hn358_1) | (show (Addr.add _ _).block ≠ _; rw [add_block]; exact hn358_1) | exact hn358_1) (.int .u16 t352)).trans hx358_0; replace hx358_0 := (cell_far (p := ⟨gb357, 2, none⟩) (by first | (rw [add_block]; exact hn358_2) | (show (Addr.add _ _).block ≠ _; rw [add_block]; exact hn358_2) | exact hn358_2) (.int .u32 t353)).trans hx358_0; replace hx358_0 := (cell_far (p := ⟨gb357, 3, none⟩) (by first | (rw [add_block]; exact hn358_3) | (show (Addr.add _ _).block ≠ _; rw [add_block]; exact hn358_3) | exact hn358_3) (.int .u32 t354)).trans hx358_0; replace hx358_0 := (cell_far (p := ⟨gb357, 4, none⟩) (by first | (rw [add_block]; exact hn358_4) | (show (Addr.add _ _).block ≠ _; rw [add_block]; exact hn358_4) | exact hn358_4) (.string t355)).trans hx358_0; clear hn358_0; clear hn358_1; clear hn358_2; clear hn358_3; clear hn358_4; replace p358 := eq_true p358; replace q358 := eq_true q358) | ((with_reducible refine gate_callee (f := 22) rfl ?_); refine gl_ (some 39) Tryz.func22 #[.slice A0 l0.length c0, .int .u32 x8_1, .string (rdOf ByteArray.empty x10_1 0)] ?_; (with_reducible refine (cambiumref14_Entry.calls k1 _ _ l0 x8_1 (rdOf ByteArray.empty x10_1 0) t359 _ ?side1 ?side2 A15.out).mono ?_); (case side1 => exact Kd.C_below HR0.out bel_); (case side2 => exact HC0.out); rintro e w904 ⟨rfl, hb⟩; refine ⟨_, rfl, ?_⟩; replace HO_10 := ak_ (Kd.Q_below (by (with_reducible repeat (first | apply Kd.Q_alloc | apply Kd.Q_drewN | apply Kd.Q_drew)); exact (Kd.Q_mono (Kd.Q_far (p := ⟨gb357, 4, none⟩) (Kd.Q_far (p := ⟨gb357, 3, none⟩) (Kd.Q_far (p := ⟨gb357, 2, none⟩) (Kd.Q_far (p := ⟨gb357, 1, none⟩) (Kd.Q_far (p := ⟨gb357, 0, none⟩) (Kd.Q_types HO_10.out BK357.out (by decide)) (fun _ hk => hk.2) (.int .u8 t351)) (fun _ hk => hk.2) (.int .u16 t352)) (fun _ hk => hk.2) (.int .u32 t353)) (fun _ hk => hk.2) (.int .u32 t354)) (fun _ hk => hk.2) (.string t355)) (fun _ h_ => h_.1))) hb); replace HB := hb_ hb; replace BK357 := ak_ (blk_below (g := gb357) (o := .cells #[.int .u8 t351, .int .u16 t352, .int .u32 t353, .int .u32 t354, .string t355] 31 (0, 0)) (bs_) hb); (try clear hb)) | ((with_reducible refine gate_dst (N := 11) rfl ?_); (try (refine gate_guard (by rfl) ?_; dsimp only)); refine bx_ (N := 11) (cs := #[.int .u8 0, .int .u16 0, .int .u32 0, .int .u32 0, .string (⟨#[]⟩ : ByteArray)]) (t := 31) ?_; intro gb357 hg w902 hbox hb; have BK357 := ak_ (hbox); have GW357 := ge_ hg; have GE357 := ge_ hg; replace HO_10 := ak_ (Kd.Q_below (by (with_reducible repeat (first | apply Kd.Q_alloc | apply Kd.Q_drewN | apply Kd.Q_drew)); exact HO_10.out) hb); replace HB := hb_ hb; clear hb hbox hg; obtain ⟨hcz903_0, hcz903_1, hcz903_2, hcz903_3, hcz903_4⟩ := cl5_ BK357; obtain ⟨hfz903_0, hfz903_1, hfz903_2, hfz903_3, hfz903_4⟩ := fz5_ BK357))
      go_ret2
      exact ⟨rfl, bel_⟩
  rw [if_neg c6] at H
  exact absurd H (by simp)
 rw [if_neg c5] at H
 have c5b0 : (t344 == 0) = false := beq_eq_false_iff_ne.mpr c5
 have c5b1 : (t344 != 0) = true := bne_iff_ne.mpr c5
 simp only [Option.some.injEq, Prod.mk.injEq] at H
 obtain ⟨rfl, rfl⟩ := H
 go_enter Tryz.func5, Tryz.ntmps5
 go_wp2_with (first | ((with_reducible refine gate_callee (f := 14) rfl ?_); refine gl_ (some 17) Tryz.func14 #[.slice A0 l0.length c0] ?_; (with_reducible refine (cambiumref14_Check.calls k _ _ l0 t344 _ ?side1 ?side2 A4.out).mono ?_); (case side1 => repeat (first | exact HR0.out | (with_reducible refine Kd.C_alloc ?_ _) | (with_reducible refine Kd.C_drewN ?_ _) | (with_reducible refine Kd.C_drew ?_))); (case side2 => exact HC0.out); rintro e w58 ⟨rfl, hb⟩; refine ⟨_, rfl, ?_⟩; replace HB := hb_ hb; (try clear hb)))
 go_ret2
 exact ⟨rfl, bel_⟩
def cambiumref14_New.f (k : Nat)  : Option ((List (S56))) := (cambiumref12_Key.f k 1 1 (⟨#[]⟩ : ByteArray) 0).bind fun bt479 => ((cambiumref12_Encode.f k 1 0 1 0 (⟨#[]⟩ : ByteArray)).bind fun bt481 => (some (([(⟨bt479.1, bt481.1⟩ : S56)] : List (S56)))))
theorem cambiumref14_New.mono : ∀ k, LeO (cambiumref14_New.f k ) (cambiumref14_New.f (k + 1) ) := by
 intro  k
 unfold cambiumref14_New.f
 repeat' (first | (with_reducible first | exact cambiumref12_Encode.mono _ _ _ _ _ _ | exact cambiumref12_Key.mono _ _ _ _ _ | exact LeO.refl _ | exact LeO.none _ | refine LeO.ite ?_ ?_ | refine LeO.bind ?_ (fun _ => ?_)))
set_option maxHeartbeats 8000000 in
set_option maxRecDepth 100000 in
theorem cambiumref14_New.calls (k : Nat)  (r : List (S56)) (w : World) (h : cambiumref14_New.f k  = some r) :
  Calls Tryz.prog 17 #[] w fun e w' => ∃ v0_ : Value, e = .returned (v0_) ∧ Kd.R k56 56 w' w.heap.size (fun _ => True) v0_ r ∧ Below w.heap.size w w' := by
 have hu59 := Tryz.underlying59
 have hu31 := Tryz.underlying31
 have hu56 := Tryz.underlying56
 have HB := ak_ (Below.refl w.heap.size w)
 have H : ((cambiumref12_Key.f k 1 1 (⟨#[]⟩ : ByteArray) 0).bind fun bt479 => ((cambiumref12_Encode.f k 1 0 1 0 (⟨#[]⟩ : ByteArray)).bind fun bt481 => (some (([(⟨bt479.1, bt481.1⟩ : S56)] : List (S56)))))) = some r := h
 clear h
 replace H := Option.bind_eq_some_iff.mp H
 obtain ⟨⟨t479, t480⟩, A10, H⟩ := H
 try dsimp only at H
 have A1 := ak_ A10
 clear A10
 replace H := Option.bind_eq_some_iff.mp H
 obtain ⟨⟨t481, t482⟩, A20, H⟩ := H
 try dsimp only at H
 have A2 := ak_ A20
 clear A20
 obtain ⟨y483, hy483⟩ : ∃ y_ : List (S56), y_ = (([(⟨t479, t481⟩ : S56)] : List (S56))) := ⟨_, rfl⟩
 replace H : (some y483) = some r := by first | (rw [hy483]; with_reducible exact H) | (have H2_ := (Option.bind_some _ _).symm.trans H; rw [hy483]; with_reducible exact H2_) | (have H2_ := (Option.bind_some _ _).symm.trans H; with_reducible exact H2_) | with_reducible exact H | (rw [hy483]; exact H) | exact H
 have Ny483 := ak_ hy483
 clear hy483
 obtain rfl := Option.some.inj H
 go_enter Tryz.func17, Tryz.ntmps17
 go_wp2_with (first | ((with_reducible refine gate_callee (f := 34) rfl ?_); refine gl_ (some 7) Tryz.func34 #[.agg #[.int .u8 1, .int .u32 1, .string (⟨#[]⟩ : ByteArray), .int .u32 0]] ?_; (with_reducible refine (cambiumref12_Key.calls k 1 1 (⟨#[]⟩ : ByteArray) 0 t479 t480 _ A1.out).mono ?_); rintro e w3 ⟨rfl, hb⟩; refine ⟨_, rfl, ?_⟩; replace HB := hb_ hb; (try clear hb)) | ((with_reducible refine gate_callee (f := 35) rfl ?_); refine gl_ (some 12) Tryz.func35 #[.agg #[.int .u8 1, .int .u16 0, .int .u32 1, .int .u32 0, .string (⟨#[]⟩ : ByteArray)]] ?_; (with_reducible refine (cambiumref12_Encode.calls k 1 0 1 0 (⟨#[]⟩ : ByteArray) t481 t482 _ A2.out).mono ?_); rintro e w4 ⟨rfl, hb⟩; refine ⟨_, rfl, ?_⟩; replace HB := hb_ hb; (try clear hb)) | ((with_reducible refine gate_dst (N := 18) rfl ?_); refine Kd.R_lit k56 _ 56 ?hg (N := 18) ?hd (xs := ([(⟨t479, t481⟩ : S56)] : List (S56))) (inner := [.string t479, .string t481]) (ok := fun _ => True) (okp := fun _ => True) ?hr ?hp (fun _ hk => hk) trivial (Below.refl _ _) (Nat.le_refl _) (by simp) ?_; (case hd => rfl); (case hg => rfl); (case hr => first | (go_simp; done) | (go_simp; rfl)); (case hp => exact (Reps.c2 (show Kd.M k56 _ _ _ (⟨t479, t481⟩ : S56) [.string t479, .string t481] from (k56_mkM _ _ _ (⟨t479, t481⟩ : S56) )) (Reps.none _ _))); intro v484 w5 ho6 hb hg_ hnew_; clear hg_ hnew_; (first | rw [← Ny483.out] at ho6 | (simp only [Int.reduceToNat] at ho6; rw [← Ny483.out] at ho6)); have HO485 := rl_ ho6; replace HB := hb_ hb; clear hb ho6))
 go_ret
 exact ⟨_, by first | rfl | (simp [errW_none, errW_some] <;> rfl) | (simp [*, errW_none, errW_some] <;> rfl), by (with_reducible repeat (first | apply Kd.R_alloc | apply Kd.R_drewN | apply Kd.R_drew)); exact HO485.out, bel_⟩
end Go.Proofs.YtpnmajblhgnkoaaGreat.Z
end

section
namespace Go.Proofs.YtpnmajblhgnkoaaGreat.Z
open Go.Proofs.YtpnmajblhgnkoaaGreat.PM
theorem ok_sizes {l : List It} (h : okL l = true) : (∀ x ∈ l, x.f0.size ≤ 48) ∧ (∀ x ∈ l, x.f1.size ≤ 160) := by
  have h1 := ((okL_iff l).1 h).1
  have h2 : ∀ x ∈ l, x.f0.size ≤ 48 ∧ x.f1.size ≤ 160 := fun x hx => by
    have := h1 x hx
    unfold okI okK at this
    simp only [Bool.and_eq_true, decide_eq_true_eq] at this
    exact ⟨this.1.2, this.2⟩
  exact ⟨fun x hx => (h2 x hx).1, fun x hx => (h2 x hx).2⟩
theorem check_l2 {l : List It} (hl : l.length ≤ 4398046511103) (hk : ∀ x ∈ l, x.f0.size ≤ 48) (i : Int) (v : Int) (hn : Ev (fun k => cambiumref14_Check.l1 k l l (l.length : Int) (wrap64 (i + 1))) v) (kd md ln sz : Int) (tg : ByteArray) :
    ∀ (m : Nat) (d : Int) (st : Nat), st + m = l.length → Ev (fun k => cambiumref14_Check.l2 k l d (st : Int) l (l.length : Int) i kd md ln sz tg) (if kd = 1 then (if rootedL (upF l) m d = true then v else 9) else v) := by
  intro m
  by_cases hkd : kd = 1
  · simp only [if_pos hkd]
    induction m with
    | zero =>
      intro d st hst
      have hst : st = l.length := hst
      subst hst
      refine Ev.step (fun k => by rw [cambiumref14_Check.l2]) ?_
      refine Ev.ifp hkd ?_
      rw [rootedL]
      by_cases hd : d = 1
      · rw [if_pos (beq_iff_eq.2 hd)]
        exact Ev.ifp hd (Ev.ifn (by omega) hn)
      · rw [if_neg (fun h => hd (beq_iff_eq.1 h))]
        refine Ev.ifn hd (Ev.ifp (Int.le_refl _) ?_)
        refine Ev.bind (up_f (by omega) hk d) ?_
        rw [w64 (i := (l.length : Int) + 1) (by omega) (by omega)]
        refine Ev.step (fun k => by rw [cambiumref14_Check.l2]) ?_
        refine Ev.ifp hkd ?_
        exact Ev.ite (fun _ => Ev.ifp (by omega) (Ev.const rfl)) (fun _ => Ev.ifn (by omega) (Ev.ifp (by omega) (Ev.const rfl)))
    | succ m ih =>
      intro d st hst
      refine Ev.step (fun k => by rw [cambiumref14_Check.l2]) ?_
      refine Ev.ifp hkd ?_
      rw [rootedL]
      by_cases hd : d = 1
      · rw [if_pos hd, if_pos rfl]
        exact Ev.ifp hd (Ev.ifn (by omega) hn)
      · rw [if_neg hd]
        refine Ev.ifn hd (Ev.ifp (by omega) ?_)
        refine Ev.bind (up_f (by omega) hk d) ?_
        rw [w64 (i := (st : Int) + 1) (by omega) (by omega)]
        exact ih (upS l d).2 (st + 1) (by omega)
  · simp only [if_neg hkd]
    intro d st hst
    refine Ev.step (fun k => by rw [cambiumref14_Check.l2]) ?_
    exact Ev.ifn hkd (Ev.ifn (by omega) hn)
theorem check_l1 {l : List It} (hl : l.length ≤ 4398046511103) (hk : ∀ x ∈ l, x.f0.size ≤ 48) (hv : ∀ x ∈ l, x.f1.size ≤ 160) (h1 : ∀ x ∈ l, oneB l x = true) : ∀ d i : Nat, l.length = i + d →
    Ev (fun k => cambiumref14_Check.l1 k l l (l.length : Int) (i : Int)) (if (l.drop i).all (lkR l (l.length + 1)) = true then 0 else 9) := by
  intro d
  induction d with
  | zero =>
    intro i hi
    refine Ev.step (fun k => by rw [cambiumref14_Check.l1]) ?_
    refine Ev.ifn (by omega) (Ev.const ?_)
    rw [List.drop_of_length_le (by omega)]; rfl
  | succ d ih =>
    intro i hi
    have hlt : i < l.length := by omega
    have ihh := ih (i + 1) (by omega)
    have hm := List.getElem_mem hlt
    have hone := h1 l[i] hm
    unfold oneB at hone
    rw [Bool.and_eq_true] at hone
    have hp : pe l[i] = 0 := eq_of_beq hone.1
    have hr := (pe_key hp).2.2.1
    have hw : wrap64 ((i : Int) + 1) = ((i + 1 : Nat) : Int) := by rw [w64 (by omega) (by omega)]; omega
    refine Ev.step (fun k => by rw [cambiumref14_Check.l1]) ?_
    rw [rd_get l i hlt]
    refine Ev.ifp (by omega) (Ev.ifp (by omega) (Ev.ifp (by omega) ?_))
    refine Ev.bind (rparse_f _ (by have := hk l[i] hm; omega)) ?_
    rw [List.drop_eq_getElem_cons hlt, List.all_cons]
    show Ev (fun k => if (keptS l[i]).f0 = 1 then cambiumref14_Check.j3 k l l (l.length : Int) (i : Int) ((keptS l[i]).f1 == 1) (keptS l[i]).f0 (keptS l[i]).f1 (keptS l[i]).f2 (keptS l[i]).f3 else cambiumref14_Check.j3 k l l (l.length : Int) (i : Int) true (keptS l[i]).f0 (keptS l[i]).f1 (keptS l[i]).f2 (keptS l[i]).f3) _
    have pass : lkR l (l.length + 1) l[i] = true → Ev (fun k => cambiumref14_Check.j3 k l l (l.length : Int) (i : Int) true (keptS l[i]).f0 (keptS l[i]).f1 (keptS l[i]).f2 (keptS l[i]).f3) (if (lkR l (l.length + 1) l[i] && (l.drop (i + 1)).all (lkR l (l.length + 1))) = true then (0 : Int) else 9) := fun hq => by
      refine Ev.step (fun k => by rw [cambiumref14_Check.j3]) ?_
      refine Ev.ifp rfl ?_
      rw [hw, hq, Bool.true_and]
      exact ihh
    refine Ev.ite (fun c0 => ?_) (fun c0 => pass (if_neg (fun h => c0 h.1)))
    by_cases c1 : (keptS l[i]).f1 = 1
    · rw [show ((keptS l[i]).f1 == 1) = true from beq_iff_eq.2 c1]
      exact pass (if_neg (fun h => h.2 c1))
    · rw [show ((keptS l[i]).f1 == 1) = false from beq_eq_false_iff_ne.2 c1]
      refine Ev.step (fun k => by rw [cambiumref14_Check.j3]) ?_
      refine Ev.ifn (by decide) ?_
      refine Ev.bind (inode_f (by omega) hv hr) ?_
      refine Ev.bind (up_f (by omega) hk _) ?_
      rw [tupB_ln]
      have hlk : lkR l (l.length + 1) l[i] = (if IntKind.u64.wrap (upS l (keptS l[i]).f1).1 = IntKind.u64.wrap ((inR l (keptS l[i]).f1).getD zI).ln then
          (if ((inR l (keptS l[i]).f1).getD zI).kd = 1 then rootedL (upF l) (l.length + 1) (keptS l[i]).f1 else true) else false) := if_pos ⟨c0, c1⟩
      rw [hlk]
      refine Ev.ite (fun hc => ?_) (fun hc => Ev.const ?_)
      · rw [if_pos hc]
        rw [← hw] at ihh
        refine Ev.val (check_l2 hl hk (i : Int) _ ihh _ _ _ _ _ l.length _ 0 (Nat.zero_add _)) ?_
        rw [tupB_kd]
        by_cases hkd : ((inR l (keptS l[i]).f1).getD zI).kd = 1
        · rw [if_pos hkd, if_pos hkd, rootedL, if_neg c1]
          show (if rootedL (upF l) l.length (upS l (keptS l[i]).f1).2 = true then _ else 9) = (if (rootedL (upF l) l.length (upS l (keptS l[i]).f1).2 && _) = true then _ else 9)
          cases rootedL (upF l) l.length (upS l (keptS l[i]).f1).2 <;> simp
        · rw [if_neg hkd, if_neg hkd, Bool.true_and]
      · rw [if_neg hc]; rfl
theorem check_l0 {l : List It} (hl : l.length ≤ 4398046511103) (hk : ∀ x ∈ l, x.f0.size ≤ 48) (hv : ∀ x ∈ l, x.f1.size ≤ 160) (v : Int) (hn : (∀ x ∈ l, oneB l x = true) → Ev (fun k => cambiumref14_Check.l1 k l l (l.length : Int) 0) v) : ∀ d i : Nat, l.length = i + d → (∀ x ∈ l.take i, oneB l x = true) →
    Ev (fun k => cambiumref14_Check.l0 k l l (l.length : Int) (i : Int)) (if (l.drop i).all (oneB l) = true then v else 9) := by
  intro d
  induction d with
  | zero =>
    intro i hi hb
    refine Ev.step (fun k => by rw [cambiumref14_Check.l0]) ?_
    refine Ev.ifn (by omega) ?_
    rw [List.drop_of_length_le (by omega)]
    exact hn (fun x hx => hb x (by rw [List.take_of_length_le (by omega)]; exact hx))
  | succ d ih =>
    intro i hi hb
    have hlt : i < l.length := by omega
    have hm := List.getElem_mem hlt
    refine Ev.step (fun k => by rw [cambiumref14_Check.l0]) ?_
    rw [rd_get l i hlt, w64 (i := (i : Int) + 1) (by omega) (by omega)]
    refine Ev.ifp (by omega) (Ev.ifp (by omega) (Ev.ifp (by omega) ?_))
    refine Ev.bind (one_f (by omega) hv (hv _ hm) (hk _ hm)) ?_
    rw [List.drop_eq_getElem_cons hlt, List.all_cons]
    refine Ev.ite (fun h => ?_) (fun h => Ev.const ?_)
    · rw [h, Bool.true_and]
      refine ih (i + 1) (by omega) (fun x hx => ?_)
      rw [← List.take_append_getElem hlt] at hx
      rcases List.mem_append.1 hx with hx | hx
      · exact hb x hx
      · rw [List.mem_singleton.1 hx]; exact h
    · rw [(Bool.not_eq_true _).mp h]; rfl
theorem rCheck_f {l : List It} (hl : l.length ≤ 4398046511103) : Ev (fun k => cambiumref14_Check.f k l) (if goodR l = true then 0 else 9) := by
  unfold cambiumref14_Check.f
  refine Ev.bind (refCheck l (by omega)) ?_
  unfold goodR
  by_cases hok : okL l = true
  · rw [hok, Bool.true_and]
    obtain ⟨hk, hv⟩ := ok_sizes hok
    refine Ev.ifp rfl ?_
    refine Ev.bind (inode_f (by omega) hv ⟨by decide, by decide⟩) ?_
    rw [tupB_is, tupB_kd]
    have bad : Ev (fun k => cambiumref14_Check.j0 k l true) 9 := Ev.step (fun k => by rw [cambiumref14_Check.j0]) (Ev.ifp rfl (Ev.const rfl))
    refine Ev.ite (fun h => ?_) (fun h => ?_)
    · by_cases hk1 : ((inR l 1).getD zI).kd = 1
      · rw [hk1]
        refine Ev.step (fun k => by rw [cambiumref14_Check.j0]) ?_
        refine Ev.ifn (by decide) ?_
        refine Ev.val (check_l0 hl hk hv _ (fun h1 => check_l1 hl hk hv h1 l.length 0 (Nat.zero_add _).symm) l.length 0 (Nat.zero_add _).symm (fun x hx => by rw [List.take_zero] at hx; cases hx)) ?_
        rw [List.drop_zero, show ((1 : Int) == 1) = true from rfl, Bool.true_and]
        cases l.all (oneB l) <;> simp
      · rw [show (((inR l 1).getD zI).kd != 1) = true from bne_iff_ne.2 hk1, show (((inR l 1).getD zI).kd == 1) = false from beq_eq_false_iff_ne.2 hk1]
        exact bad
    · have hz : inR l 1 = none := by
        cases hq : inR l 1 with
        | none => rfl
        | some n => rw [hq] at h; exact absurd rfl h
      rw [hz]
      exact bad
  · rw [(Bool.not_eq_true _).mp hok]
    exact Ev.ifn (by decide) (Ev.const rfl)
theorem rCheck_look {l : List It} (hl : l.length ≤ 4398046511103) : Ev (fun k => cambiumref14_Check.f k l) (match lookS l with | none => 9 | some _ => 0) := by
  refine Ev.val (rCheck_f hl) ?_
  cases h : lookS l with
  | none => rw [look_none_good h]; rfl
  | some s => rw [look_good h]; rfl
theorem rGet_f {l : List It} (hl : l.length ≤ 4398046511103) {a : Int} (ha : 0 ≤ a ∧ a < 4294967296) : Ev (fun k => cambiumref14_Get.f k l a) (getR (lookS l) a) := by
  unfold cambiumref14_Get.f
  refine Ev.bind (rCheck_look hl) ?_
  cases h : lookS l with
  | none => exact Ev.ifn (by decide) (Ev.const rfl)
  | some s =>
    have hr := look_rt h
    refine Ev.ifp rfl ?_
    refine Ev.bind (inode_f (by omega) (ok_sizes hr.ok).2 ha) ?_
    rw [← ino_eq hr.inv hr.ok ha]
    cases hm : s.ino a with
    | none =>
      have e : getR (some s) a = (0, 0, 0, 0, ⟨#[]⟩, 5) := by unfold getR; simp only [hm]
      rw [e]; exact Ev.ifn (by decide) (Ev.const rfl)
    | some n =>
      have e : getR (some s) a = (n.kd, n.md, n.ln, n.sz, n.tg, 0) := by unfold getR; simp only [hm]
      rw [e]; exact Ev.ifp rfl (Ev.const rfl)
theorem rnext_l0 {l : List It} {s : VS} (hr : Rt l s) (hl : l.length ≤ 4398046511103) (r : Int) (hr2 : r < 4294967296) (hno : (s.ino r).isSome = false) : ∀ (d : Nat) (n : Int), 0 ≤ n → r = n + d → (∀ m, n ≤ m → m < r → (s.ino m).isSome = true) → Ev (fun k => cambiumref14_Next.l0 k l n) (r, 0) := by
  intro d
  induction d with
  | zero =>
    intro n hn hd hm
    have : r = n := by omega
    subst this
    refine Ev.step (fun k => by rw [cambiumref14_Next.l0]) ?_
    refine Ev.bind (inode_f (by omega) (ok_sizes hr.ok).2 ⟨hn, hr2⟩) ?_
    rw [tupB_is, ← ino_eq hr.inv hr.ok ⟨hn, hr2⟩, hno]
    exact Ev.ifn (by decide) (Ev.const rfl)
  | succ d ih =>
    intro n hn hd hm
    refine Ev.step (fun k => by rw [cambiumref14_Next.l0]) ?_
    refine Ev.bind (inode_f (by omega) (ok_sizes hr.ok).2 (a := n) ⟨hn, by omega⟩) ?_
    rw [tupB_is, ← ino_eq hr.inv hr.ok (a := n) ⟨hn, by omega⟩, hm n (Int.le_refl _) (by omega)]
    refine Ev.ifp rfl ?_
    rw [show (n + 1) % 4294967296 = n + 1 by omega]
    exact ih (n + 1) (by omega) (by omega) (fun m h1 h2 => hm m (by omega) h2)
theorem next_both {l : List It} (hf : Fit l) (hl : l.length ≤ 1048576) : ∃ r, Ev (fun k => dirs_Next.f k l) r ∧ Ev (fun k => cambiumref14_Next.f k l) r := by
  have hlk := look_f l hf (by omega)
  have hc := rCheck_look (l := l) (by omega)
  cases h : lookS l with
  | none =>
    rw [h] at hlk hc
    refine ⟨(0, 9), ?_, ?_⟩
    · unfold dirs_Next.f
      exact Ev.bind hlk (Ev.const rfl)
    · unfold cambiumref14_Next.f
      exact Ev.bind hc (Ev.ifn (by decide) (Ev.const rfl))
  | some s =>
    rw [h] at hlk hc
    have hr := look_rt h
    obtain ⟨j, hj, hjn⟩ := pigeon l.length (l.map (fun x => (keptS x).f1 - 2)) (by rw [List.length_map]; exact Nat.le_refl _)
    have hfree : (s.ino (2 + (j : Int))).isSome = false := by
      cases hm : s.ino (2 + (j : Int)) with
      | none => rfl
      | some m =>
        obtain ⟨x, hx, _, he, _⟩ := hr.inv.src _ m hm
        exact absurd (List.mem_map.2 ⟨x, hx, by rw [he]; omega⟩) hjn
    obtain ⟨n, hn, h1, h2, h3, h4⟩ := nextL_f s.ino j 2 (by decide) (by omega) hfree
    refine ⟨(n, 0), ?_, ?_⟩
    · unfold dirs_Next.f
      refine Ev.bind hlk ?_
      exact Ev.bind hn (Ev.const rfl)
    · unfold cambiumref14_Next.f
      refine Ev.bind hc (Ev.ifp rfl ?_)
      exact rnext_l0 hr (by omega) n (by omega) h3 (n - 2).toNat 2 (by decide) (by omega) h4
theorem rlist_l0 {l : List It} {s : VS} (hr : Rt l s) (hl : l.length ≤ 4398046511103) (a : Int) : ∀ d i : Nat, l.length = i + d → ∀ acc : List S43, acc.length + d ≤ 4398046511103 →
    Ev (fun k => cambiumref14_List.l0 k l a acc l (l.length : Int) (i : Int)) (acc ++ (((l.drop i).map keptS).filter (fun x => x.f0 == 2 && x.f1 == a)).map (entS s), 0) := by
  obtain ⟨hk, hv⟩ := ok_sizes hr.ok
  intro d
  induction d with
  | zero =>
    intro i hi acc _
    refine Ev.step (fun k => by rw [cambiumref14_List.l0]) ?_
    refine Ev.ifn (by omega) (Ev.const ?_)
    rw [List.drop_of_length_le (by omega), List.map_nil, List.filter_nil, List.map_nil, List.append_nil]
  | succ d ih =>
    intro i hi acc ha
    have hlt : i < l.length := by omega
    have hm := List.getElem_mem hlt
    have hw : wrap64 ((i : Int) + 1) = ((i + 1 : Nat) : Int) := by rw [w64 (by omega) (by omega)]; omega
    refine Ev.step (fun k => by rw [cambiumref14_List.l0]) ?_
    rw [rd_get l i hlt]
    refine Ev.ifp (by omega) (Ev.ifp (by omega) (Ev.ifp (by omega) ?_))
    refine Ev.bind (rparse_f _ (by have := hk l[i] hm; omega)) ?_
    rw [List.drop_eq_getElem_cons hlt, List.map_cons]
    show Ev (fun k => if (keptS l[i]).f0 = 2 then cambiumref14_List.j3 k l a acc l (l.length : Int) (i : Int) ((keptS l[i]).f1 == a) (l[i]).f0 (l[i]).f1 (keptS l[i]).f0 (keptS l[i]).f1 (keptS l[i]).f2 (keptS l[i]).f3 else cambiumref14_List.j3 k l a acc l (l.length : Int) (i : Int) false (l[i]).f0 (l[i]).f1 (keptS l[i]).f0 (keptS l[i]).f1 (keptS l[i]).f2 (keptS l[i]).f3) _
    have pass : ((keptS l[i]).f0 == 2 && (keptS l[i]).f1 == a) = false → Ev (fun k => cambiumref14_List.j3 k l a acc l (l.length : Int) (i : Int) false (l[i]).f0 (l[i]).f1 (keptS l[i]).f0 (keptS l[i]).f1 (keptS l[i]).f2 (keptS l[i]).f3) (acc ++ ((keptS l[i] :: (l.drop (i + 1)).map keptS).filter (fun x => x.f0 == 2 && x.f1 == a)).map (entS s), (0 : Int)) := fun hq => by
      refine Ev.step (fun k => by rw [cambiumref14_List.j3]) ?_
      refine Ev.ifn (by decide) ?_
      rw [hw, List.filter_cons_of_neg (by rw [hq]; decide)]
      exact ih (i + 1) (by omega) acc (by omega)
    refine Ev.ite (fun c0 => ?_) (fun c0 => pass (by rw [beq_eq_false_iff_ne.2 c0]; rfl))
    by_cases c1 : (keptS l[i]).f1 = a
    · rw [show ((keptS l[i]).f1 == a) = true from beq_iff_eq.2 c1]
      refine Ev.step (fun k => by rw [cambiumref14_List.j3]) ?_
      refine Ev.ifp rfl ?_
      have hn := numS_range (l[i]).f1
      refine Ev.bind (named_f _ _) ?_
      refine Ev.bind (inode_f (by omega) hv (a := numS (l[i]).f1) (by omega)) ?_
      refine Ev.bind (named_f _ _) ?_
      refine Ev.ifp (by omega) ?_
      rw [hw, tupB_kd, ← ino_eq hr.inv hr.ok (a := numS (l[i]).f1) (by omega)]
      refine Ev.val (ih (i + 1) (by omega) _ (by rw [List.length_append, List.length_singleton]; omega)) ?_
      rw [List.filter_cons_of_pos (by rw [c0, c1]; simp), List.map_cons, List.append_assoc]
      rfl
    · rw [show ((keptS l[i]).f1 == a) = false from beq_eq_false_iff_ne.2 c1]
      exact pass (by rw [beq_eq_false_iff_ne.2 c1, Bool.and_false])
theorem rList_f {l : List It} (hl : l.length ≤ 4398046511103) {a : Int} (ha : 0 ≤ a ∧ a < 4294967296) : Ev (fun k => cambiumref14_List.f k l a) (listR (lookS l) a) := by
  unfold cambiumref14_List.f
  refine Ev.bind (rGet_f hl ha) ?_
  have out : ∀ w : Int, w ≠ 0 → Ev (fun k => cambiumref14_List.j1 k l a w) ([], w) := fun w hw => Ev.step (fun k => by rw [cambiumref14_List.j1]) (Ev.ifn hw (Ev.const rfl))
  have out0 : ∀ w : Int, w ≠ 0 → Ev (fun k => cambiumref14_List.j0 k l a w false) ([], w) := fun w hw => Ev.step (fun k => by rw [cambiumref14_List.j0]) (Ev.ifn (by decide) (out w hw))
  cases h : lookS l with
  | none =>
    show Ev _ (([], 9) : List S43 × Int)
    exact Ev.ifn (show ¬ (9 : Int) = 0 by decide) (out0 9 (by decide))
  | some s =>
    have hr := look_rt h
    cases hm : s.ino a with
    | none =>
      have e : getR (some s) a = (0, 0, 0, 0, ⟨#[]⟩, 5) := by unfold getR; simp only [hm]
      have e2 : listR (some s) a = ([], 5) := by unfold listR; simp only [hm]
      rw [e, e2]
      exact Ev.ifn (show ¬ (5 : Int) = 0 by decide) (out0 5 (by decide))
    | some n =>
      have e : getR (some s) a = (n.kd, n.md, n.ln, n.sz, n.tg, 0) := by unfold getR; simp only [hm]
      rw [e]
      refine Ev.ifp rfl ?_
      by_cases hk : n.kd = 1
      · have e2 : listR (some s) a = (listS s a, 0) := by unfold listR; simp only [hm]; rw [if_pos hk]
        rw [e2]
        show Ev (fun k => cambiumref14_List.j0 k l a 0 (n.kd != 1)) _
        rw [hk]
        refine Ev.step (fun k => by rw [cambiumref14_List.j0]) (Ev.ifn (by decide) ?_)
        refine Ev.step (fun k => by rw [cambiumref14_List.j1]) (Ev.ifp rfl ?_)
        refine Ev.val (rlist_l0 hr hl a l.length 0 (Nat.zero_add _).symm [] (by rw [List.length_nil]; omega)) ?_
        rw [List.nil_append, List.drop_zero, ← hr.inv.all]
        rfl
      · have e2 : listR (some s) a = ([], 12) := by unfold listR; simp only [hm]; rw [if_neg hk]
        rw [e2]
        show Ev (fun k => cambiumref14_List.j0 k l a 0 (n.kd != 1)) _
        rw [show (n.kd != 1) = true from bne_iff_ne.2 hk]
        exact Ev.step (fun k => by rw [cambiumref14_List.j0]) (Ev.ifp rfl (out 12 (by decide)))
theorem splitL_sz : ∀ (l : List UInt8), ∀ n ∈ splitL l, n.length ≤ l.length + 1 := by
  intro l n hn
  have hj := congrArg List.length (joinL_splitL l)
  have : ∀ (L : List (List UInt8)), n ∈ L → n.length ≤ (joinL L).length := by
    intro L
    induction L with
    | nil => intro h; cases h
    | cons x r ih =>
      intro h
      cases r with
      | nil => rw [List.mem_singleton.1 h]; simp [joinL]
      | cons y r' =>
        rcases List.mem_cons.1 h with rfl | h
        · simp [joinL]; omega
        · have := ih h
          simp [joinL] at this ⊢
          omega
  exact Nat.le_trans (this _ hn) (Nat.le_of_eq (hj.trans List.length_cons))
theorem tgS_size (s : VS) (t : Int) : ∀ x ∈ (tgS s t).1, x.size ≤ 256 := by
  unfold tgS baP
  intro x hx
  obtain ⟨n, hn, rfl⟩ := List.mem_map.1 hx
  rcases path_cases ((s.ino t).getD zI).tg.data.toList with h | ⟨_, h⟩ | ⟨rest, h0, _, h1, h2, h3⟩
  · rw [h.2] at hn; cases hn
  · rw [h] at hn; cases hn
  · rw [h3] at hn
    have := splitL_sz rest n hn
    rw [ba_size]
    rw [h0, List.length_cons] at h1
    omega
theorem rwalk_f {l : List It} {s : VS} (hr : Rt l s) (hl : l.length ≤ 4398046511103) (follow : Bool) : ∀ (b : Nat) (ns : List ByteArray) (a : Int), (0 ≤ a ∧ a < 4294967296) → ns.length + 300 * b ≤ 10000000 → (∀ x ∈ ns, x.size ≤ 9223372036854775807) → b ≤ 8 →
    Ev (fun k => cambiumref14_Walk.l0 k l follow a (8 - (b : Int)) ns) (walkS l s follow b ns a) := by
  have go : ∀ (b : Nat) (rec : Option (List ByteArray → Int × Int)), b ≤ 8 → (rec = none → b = 0) → (∀ R, rec = some R → ∃ c, b = c + 1 ∧ ∀ m, m.length + 300 * c ≤ 10000000 → (∀ x ∈ m, x.size ≤ 9223372036854775807) → Ev (fun k => cambiumref14_Walk.l0 k l follow 1 (8 - (c : Int)) m) (R m)) →
      ∀ (ns : List ByteArray) (a : Int), (0 ≤ a ∧ a < 4294967296) → ns.length + 300 * b ≤ 10000000 → (∀ x ∈ ns, x.size ≤ 9223372036854775807) → Ev (fun k => cambiumref14_Walk.l0 k l follow a (8 - (b : Int)) ns) (goS l s follow rec ns a) := by
    intro b rec hb h0 hR ns
    induction ns with
    | nil =>
      intro a ha hn _
      refine Ev.step (fun k => by rw [cambiumref14_Walk.l0]) ?_
      refine Ev.ifn ?_ (Ev.const rfl)
      rw [List.length_nil]; decide
    | cons x r ih =>
      intro a ha hn hsz
      rw [List.length_cons] at hn
      have hrs : ∀ y ∈ r, y.size ≤ 9223372036854775807 := fun y hy => hsz y (List.mem_cons_of_mem _ hy)
      refine Ev.step (fun k => by rw [cambiumref14_Walk.l0]) ?_
      rw [goS]
      refine Ev.ifp (by rw [List.length_cons]; omega) ?_
      have hv := (ok_sizes hr.ok).2
      refine Ev.bind (inode_f (by omega) hv ha) ?_
      rw [tupB_kd, ← ino_eq hr.inv hr.ok ha]
      by_cases hd : s.kd a = 1
      · rw [if_pos hd]
        refine Ev.ifp hd (Ev.ifp (by rw [List.length_cons]; omega) ?_)
        show Ev (fun k => (cambiumref14_Entry.f k l a x).bind _) _
        refine Ev.bind (rEntry_f (by omega) ha x (hsz x (List.mem_cons_self ..))) ?_
        by_cases ht : entryS l a x = 0
        · rw [if_pos ht]; exact Ev.ifp ht (Ev.const rfl)
        · rw [if_neg ht]
          refine Ev.ifn ht (Ev.ifp (by rw [List.length_cons]; omega) ?_)
          refine Ev.bindc (a := r) rfl ?_
          have htr := entryS_range l a x
          refine Ev.bind (inode_f (by omega) hv htr) ?_
          rw [tupB_kd, ← ino_eq hr.inv hr.ok htr]
          have ihh := ih (entryS l a x) htr (by omega) hrs
          have pass : ∀ y0 y1 y2 y3 y4, Ev (fun k => cambiumref14_Walk.j1 k l follow (entryS l a x) (8 - (b : Int)) r true y0 y1 y2 y3 y4) (goS l s follow rec r (entryS l a x)) := fun y0 y1 y2 y3 y4 =>
            Ev.step (fun k => by rw [cambiumref14_Walk.j1]) (Ev.ifp rfl ihh)
          have link : ∀ y0 y1 y2 y3, Ev (fun k => cambiumref14_Walk.j1 k l follow (entryS l a x) (8 - (b : Int)) r false y0 y1 y2 y3 ((s.ino (entryS l a x)).getD zI).tg) (linkS rec (tgS s (entryS l a x)) r) := fun y0 y1 y2 y3 => by
            refine Ev.step (fun k => by rw [cambiumref14_Walk.j1]) (Ev.ifn (by decide) ?_)
            cases rec with
            | none =>
              have := h0 rfl
              exact Ev.ifp (by omega) (Ev.const rfl)
            | some R =>
              obtain ⟨c, rfl, hc⟩ := hR R rfl
              refine Ev.ifn (by omega) ?_
              refine Ev.bind (refSplit_f _) ?_
              have e : baP (pathSpec ((s.ino (entryS l a x)).getD zI).tg.data.toList) = tgS s (entryS l a x) := rfl
              rw [e]
              have hlen := tgS_len s (entryS l a x)
              unfold linkS
              by_cases hz : (tgS s (entryS l a x)).2 = 0
              · simp only [if_pos hz]
                refine Ev.bindc (a := ([] : List ByteArray)) rfl (Ev.ifp (by rw [List.length_nil]; omega) ?_)
                refine Ev.bindc (a := [] ++ (tgS s (entryS l a x)).1) rfl (Ev.ifp (by rw [List.nil_append]; omega) ?_)
                rw [List.nil_append, show wrap64 ((8 : Int) - ((c + 1 : Nat) : Int) + 1) = 8 - (c : Int) by rw [w64 (by omega) (by omega)]; omega]
                refine hc _ (by rw [List.length_append]; omega) (fun y hy => ?_)
                rcases List.mem_append.1 hy with hy | hy
                · have := tgS_size s _ y hy; omega
                · exact hrs y hy
              · simp only [if_neg hz]
                exact Ev.const rfl
          have tg : (tupB (s.ino (entryS l a x))).2.2.2.2.1 = ((s.ino (entryS l a x)).getD zI).tg := tupB_tg _
          rw [tg]
          refine Ev.ite (fun k3 => ?_) (fun k3 => ?_)
          · have k3 : s.kd (entryS l a x) = 3 := k3
            refine Ev.ite (fun r0 => ?_) (fun r0 => ?_)
            · have r0 : r = [] := List.length_eq_zero_iff.1 (by omega)
              cases hfo : follow with
              | false =>
                rw [if_neg (fun h => h.2 ⟨r0, rfl⟩)]
                rw [hfo] at pass
                exact pass _ _ _ _ _
              | true =>
                rw [if_pos ⟨k3, fun h => absurd h.2 (by decide)⟩]
                rw [hfo] at link
                exact link _ _ _ _
            · have r0 : r ≠ [] := fun h => r0 (by rw [h]; rfl)
              rw [if_pos ⟨k3, fun h => r0 h.1⟩]
              exact link _ _ _ _
          · rw [if_neg (fun h => k3 h.1)]
            exact pass _ _ _ _ _
      · rw [if_neg hd]; exact Ev.ifn hd (Ev.const rfl)
  intro b
  induction b with
  | zero => intro ns a ha hn hs hb; exact go 0 none hb (fun _ => rfl) (fun R e => by cases e) ns a ha hn hs
  | succ c ih => intro ns a ha hn hs hb; exact go (c + 1) _ hb (fun e => by cases e) (fun R e => ⟨c, rfl, fun m hm hms => by cases e; exact ih m 1 ⟨by decide, by decide⟩ hm hms (by omega)⟩) ns a ha hn hs
theorem rWalk_f {l : List It} (hl : l.length ≤ 4398046511103) (ns : List ByteArray) (hn : ns.length ≤ 1048576) (hs : ∀ x ∈ ns, x.size ≤ 9223372036854775807) (follow : Bool) : Ev (fun k => cambiumref14_Walk.f k l ns follow) (walkR l ns follow) := by
  unfold cambiumref14_Walk.f walkR
  refine Ev.bind (rCheck_look hl) ?_
  cases h : lookS l with
  | none => exact Ev.ifn (show ¬ (9 : Int) = 0 by decide) (Ev.const rfl)
  | some s =>
    refine Ev.ifp rfl ?_
    refine Ev.bindc (a := ([] : List ByteArray)) rfl (Ev.ifp (by rw [List.length_nil]; omega) ?_)
    rw [List.nil_append]
    exact rwalk_f (look_rt h) hl follow 8 ns 1 ⟨by decide, by decide⟩ (by omega) hs (by decide)
theorem rNew_f : Ev (fun k => cambiumref14_New.f k) [newI] := by
  unfold cambiumref14_New.f
  refine Ev.bind (rkey_f 1 1 ⟨#[]⟩ 0 ⟨by decide, by decide⟩ (by decide) (by decide)) ?_
  refine Ev.bind (rencode_f 1 0 1 0 ⟨#[]⟩ ⟨by decide, by decide⟩ ⟨by decide, by decide⟩ ⟨by decide, by decide⟩ ⟨by decide, by decide⟩ (by decide)) ?_
  exact Ev.const rfl
theorem same_new : Ev (fun k => cambiumref04_Same.f k [newI] [newI]) true := by
  unfold cambiumref04_Same.f
  refine Ev.ifp rfl ?_
  refine Ev.step (fun k => by rw [cambiumref04_Same.l0]) ?_
  refine Ev.ifp (by decide) (Ev.ifp (by decide) (Ev.ifp (by decide) (Ev.ifp (by decide) (Ev.ifn ?_ ?_))))
  · simp
  · refine Ev.step (fun k => by rw [cambiumref04_Same.l0]) ?_
    exact Ev.ifn (by show ¬ wrap64 (0 + 1) < (1 : Int); rw [w64 (by decide) (by decide)]; decide) (Ev.const rfl)
end Go.Proofs.YtpnmajblhgnkoaaGreat.Z
end

section
namespace Go.Proofs.YtpnmajblhgnkoaaGreat.Z
open Go.ChangeShapes Go.WideShapes Go.ChangeAt Go.RowKit Go.Deep Go.Proofs.YtpnmajblhgnkoaaGreatW.PrintWords Go.Proofs.YtpnmajblhgnkoaaGreatW.PrintLast
def Opens {α : Type} (P : Program) (t : TypeId) (d : Kd α) (G : α → Prop) (B : α → Nat) : Prop :=
  d.sz = P.cellsOf t ∧ ∀ {H : Type} {enc : TypeId × Value → H} {w : World} {base : Nat} {spare : Nat → Bool} {held : Bool} {fuel : Nat} {cs : List Value} {x : DataW H × List MemPlace},
    DataW.trod enc P w base spare held fuel t cs = some x → ∃ a, d.K w a cs ∧ G a ∧ B a ≤ Rows.uptoBulk x.1
theorem Opens.bool {P : Program} {t : TypeId} (ht : P.underlying t = some .bool) (hc : P.cellsOf t = 1) : Opens P t Kd.bool (fun _ => True) (fun _ => 1) := by
  refine ⟨hc.symm, fun h => ?_⟩
  obtain ⟨b, rfl, rfl⟩ := DataW.trod_bool ht h
  exact ⟨b, rfl, trivial, by simp [Rows.uptoBulk]⟩
theorem Opens.int {P : Program} {t : TypeId} {k : IntKind} (ht : P.underlying t = some (.int k)) (hc : P.cellsOf t = 1) : Opens P t (Kd.int k) (fun n => (Lit.int k n).wf = true) (fun _ => 1) := by
  refine ⟨hc.symm, fun h => ?_⟩
  obtain ⟨b, rfl, rfl, hw⟩ := DataW.trod_int ht h
  exact ⟨b, rfl, hw, by simp [Rows.uptoBulk]⟩
theorem Opens.string {P : Program} {t : TypeId} (ht : P.underlying t = some .string) (hc : P.cellsOf t = 1) : Opens P t Kd.string (fun s => s.size ≤ maxLen) (fun s => s.size + 1) := by
  refine ⟨hc.symm, fun h => ?_⟩
  obtain ⟨b, rfl, rfl, hw⟩ := DataW.trod_string ht h
  exact ⟨b, rfl, hw, by simp [Rows.uptoBulk]⟩
theorem bulk_len {H : Type} (l : List (DataW H)) {α : Type} {B : α → Nat} (xs : List α) (hl : xs.length = l.length) (h : ∀ (i : Nat) (a : α) (y : DataW H), xs[i]? = some a → l[i]? = some y → B a ≤ Rows.uptoBulk y) : (xs.map B).sum ≤ Rows.uptoBulkAll l := by
  induction l generalizing xs with
  | nil => have : xs = [] := List.eq_nil_of_length_eq_zero hl; subst this; simp [Rows.uptoBulkAll]
  | cons y l ih =>
    cases xs with
    | nil => simp at hl
    | cons a xs =>
      simp only [List.map_cons, List.sum_cons, Rows.uptoBulkAll]
      have h0 := h 0 a y rfl rfl
      have h1 := ih xs (by simpa using hl) (fun i a y ha hy => h (i + 1) a y (by simpa using ha) (by simpa using hy))
      omega
theorem list_of_each {α : Type} (p : Nat → α → Prop) : ∀ n : Nat, (∀ i, i < n → ∃ a, p i a) → ∃ l : List α, l.length = n ∧ ∀ i a, l[i]? = some a → p i a
  | 0, _ => ⟨[], rfl, fun i a h => by simp at h⟩
  | n + 1, h => by
    obtain ⟨l, hl, hp⟩ := list_of_each p n (fun i hi => h i (by omega))
    obtain ⟨a, ha⟩ := h n (by omega)
    refine ⟨l ++ [a], by simp [hl], fun i b hb => ?_⟩
    rcases Nat.lt_or_ge i l.length with hi | hi
    · rw [List.getElem?_append_left hi] at hb; exact hp i b hb
    · have hi2 : i = l.length := by
        have := (List.getElem?_eq_some_iff.1 hb).1
        simp at this; omega
      subst hi2
      have hb2 : a = b := by simpa using hb
      subst hb2
      rw [hl]; exact ha
theorem Opens.row {α : Type} {P : Program} {t e : TypeId} {d : Kd α} {G : α → Prop} {B : α → Nat} (ht : P.underlying t = some (.slice e)) (hO : Opens P e d G B) (hpos : 0 < P.cellsOf e)
    {H : Type} {enc : TypeId × Value → H} {w : World} {base : Nat} {spare : Nat → Bool} {held : Bool} {fuel : Nat} {cs : List Value} {x : DataW H × List MemPlace} (h : DataW.trod enc P w base spare held fuel t cs = some x) :
    ∃ (A : Option Addr) (c : Nat) (l : List α), cs = [.slice A l.length c] ∧ l.length ≤ c ∧ c ≤ maxLen ∧ Kd.C d w A l.length l ∧ (∀ a ∈ l, G a) ∧ (l.map B).sum + 1 ≤ Rows.uptoBulk x.1 ∧ (x.1 = .nil ∧ l = [] ∨ ∃ el sp, x.1 = .slice el sp ∧ el.length = l.length) := by
  rcases DataW.trod_slice ht h with ⟨rfl, rfl⟩ | ⟨a, len, cap, elems, rest, n, _, rfl, rfl, hb, hl, hm, hlen, hel, _, _⟩
  · exact ⟨none, 0, [], rfl, Nat.le_refl _, Nat.zero_le _, Kd.C_nil _ _, by simp, by simp [Rows.uptoBulk], Or.inl ⟨rfl, rfl⟩⟩
  · have each : ∀ i, i < len → ∃ a' : α, ∃ cs' y, w.cells? base (a.add (i * P.cellsOf e)) (P.cellsOf e) = some cs' ∧ elems[i]? = some y ∧ d.K w a' cs' ∧ G a' ∧ B a' ≤ Rows.uptoBulk y.1 := by
      intro i hi
      have h1 := hel i hi
      obtain ⟨y, hy⟩ : ∃ y, elems[i]? = some y := ⟨elems[i]'(by omega), List.getElem?_eq_getElem (by omega)⟩
      rw [hy, Option.bind_eq_some_iff] at h1
      obtain ⟨cs', hcs, htr⟩ := h1
      obtain ⟨a', hK, hG, hB⟩ := hO.2 htr
      exact ⟨a', cs', y, hcs, hy, hK, hG, hB⟩
    obtain ⟨l, hll, hp⟩ := list_of_each _ len each
    subst hll
    refine ⟨some a, cap, l, rfl, hl, hm, ⟨rfl, by unfold maxLen at hm; omega, fun _ => ⟨a, rfl, fun j p hj => ?_⟩⟩, ?_, ?_, Or.inr ⟨_, _, rfl, by simpa using hlen⟩⟩
    · obtain ⟨cs', y, hcs, _, hK, _, _⟩ := hp j p hj
      obtain ⟨_, hln, hc⟩ := World.cells?_some hcs
      refine ⟨cs', by rw [hln, hO.1], hK, fun i u hu => ?_⟩
      have hi : i < P.cellsOf e := by rw [← hln]; exact (List.getElem?_eq_some_iff.1 hu).1
      have := hc i hi
      rw [hu] at this
      rw [hO.1, ← this]
      congr 1
      have hs : a.spot = none := by
        have h0 := hc 0 hpos
        rw [List.getElem?_eq_getElem (by omega)] at h0
        cases hsp : a.spot with
        | none => rfl
        | some s =>
          rcases Nat.eq_zero_or_pos (j * P.cellsOf e) with hz | hz
          · rw [hz] at h0
            have : w.cell? a = some _ := h0
            unfold World.cell? at this
            rw [hsp] at this
            split at this <;> simp at this
          · have hl0 : 0 < l.length := by have := (List.getElem?_eq_some_iff.1 hj).1; omega
            obtain ⟨p0, hp0⟩ : ∃ p0, l[0]? = some p0 := ⟨l[0], List.getElem?_eq_getElem hl0⟩
            obtain ⟨cs0, y0, hcs0, _, _, _, _⟩ := hp 0 p0 hp0
            obtain ⟨_, hln0, hc0⟩ := World.cells?_some hcs0
            have h00 := hc0 0 hpos
            rw [List.getElem?_eq_getElem (by omega), Nat.zero_mul] at h00
            have : w.cell? a = some _ := h00
            unfold World.cell? at this
            rw [hsp] at this
            split at this <;> simp at this
      obtain ⟨b, o, s⟩ := a
      simp only at hs
      subst hs
      rw [add_at, add_at, add_at, Nat.add_assoc]
    · intro b hb
      obtain ⟨i, hi⟩ := List.getElem?_of_mem hb
      exact (hp i b hi).choose_spec.choose_spec.2.2.2.1
    · simp only [Rows.uptoBulk]
      have := bulk_len (elems.map (·.1)) (B := B) l (by simp [hlen]) (fun i b y hb hy => by
        obtain ⟨cs', y', _, hy', _, _, hB⟩ := hp i b hb
        rw [List.getElem?_map, hy'] at hy
        simp at hy
        subst hy
        exact hB)
      omega
theorem flat_fields {P : Program} {t : TypeId} {fs : Array Field} (ht : P.underlying t = some (.struct fs)) (hone : oneCellFields P fs = true) (hC : P.cellsOf t = fs.size)
    {H : Type} {enc : TypeId × Value → H} {w : World} {base : Nat} {spare : Nat → Bool} {held : Bool} {fuel : Nat} {cs : List Value} {x : DataW H × List MemPlace} (h : DataW.trod enc P w base spare held fuel t cs = some x) :
    ∃ (ys : List (DataW H × List MemPlace)) (n : Nat), cs.length = fs.size ∧ ys.length = fs.size ∧ x.1 = .agg (ys.map (·.1)) ∧ ∀ (i : Nat) (f : Field) (c : Value), fs[i]? = some f → cs[i]? = some c → DataW.trod enc P w base spare held n f.type [c] = ys[i]? := by
  obtain ⟨xs, n, _, rfl, hl, hlen, hf⟩ := DataW.trod_struct ht h
  refine ⟨xs, n, hl.trans hC, hlen, rfl, fun i f c hfi hc => ?_⟩
  have h1 := hf i f hfi
  obtain ⟨o0, k0⟩ := hone_of hone i f hfi
  rw [o0, k0] at h1
  rw [← h1]
  congr 1
  have hi := (List.getElem?_eq_some_iff.1 hc).1
  rw [List.drop_eq_getElem_cons hi, List.take_succ_cons, List.take_zero]
  rw [List.getElem?_eq_getElem hi] at hc
  simp at hc
  rw [hc]
end Go.Proofs.YtpnmajblhgnkoaaGreat.Z
end

section
namespace Go.Proofs.YtpnmajblhgnkoaaGreat.Z
open Go.ChangeShapes Go.WideShapes Go.ChangeAt Go.RowKit Go.Deep Go.Proofs.YtpnmajblhgnkoaaGreatW.PrintWords
def G56 (x : S56) : Prop := x.f0.size ≤ maxLen ∧ x.f1.size ≤ maxLen
def B56 (x : S56) : Nat := (x.f0.size + 1) + (x.f1.size + 1) + 1
theorem opens56 : Opens Tryz.prog 56 k56 G56 B56 := by
  refine ⟨by kernel_rfl, fun {H enc w base spare held fuel cs x} h => ?_⟩
  obtain ⟨ys, n, hl, hy, hx, hf⟩ := flat_fields Tryz.underlying56 (by kernel_rfl) (by kernel_rfl) h
  match cs, hl with
  | [c0, c1], _ =>
    match ys, hy with
    | [y0, y1], _ =>
      obtain ⟨a0, k0, g0, b0⟩ := (Opens.string Tryz.underlying9 (by kernel_rfl)).2 (hf 0 _ c0 rfl rfl)
      obtain ⟨a1, k1, g1, b1⟩ := (Opens.string Tryz.underlying9 (by kernel_rfl)).2 (hf 1 _ c1 rfl rfl)
      refine ⟨⟨a0, a1⟩, ⟨[c0], [c1], rfl, k0, k1⟩, ⟨g0, g1⟩, ?_⟩
      rw [hx]
      simp only [Rows.uptoBulk, Rows.uptoBulkAll, List.map_cons, List.map_nil, B56]
      dsimp only at b0 b1
      omega
end Go.Proofs.YtpnmajblhgnkoaaGreat.Z
end
