/- This session's own texts, laid together (a part that several claims share). -/
import Derived.Test.YtpnmajblhgnkoaaGreatMB1
import Derived.Test.YtpnmajblhgnkoaaGreatMB3
import Derived.Test.YtpnmajblhgnkoaaGreatMB2
open Go.RowKit Go.Proofs.YtpnmajblhgnkoaaGreatW.PrintWords Go.Proofs.YtpnmajblhgnkoaaGreatW.PrintLast Go.Proofs.YtpnmajblhgnkoaaGreatW.PrintMore
set_option linter.unusedVariables false
set_option linter.unusedSimpArgs false
section
namespace Go.Proofs.YtpnmajblhgnkoaaGreat.Z
attribute [local go_sem] max2_int min2_int max_two min_two max_three min_three max_four min_four   -- for this text's walks alone
def cambiumref04_Check.l0 : Nat → List (S56) → List (S56) → Int → Int → Option (Int)
 | 0, _, _, _, _ => none
 | k + 1, x0, x5, x6, x7 => if x7 < x6 then (if 0 ≤ x7 then (if x7 < (x5.length : Int) then ((cambiumref04_key.f ((rd_T56 x5 x7).f0)).bind fun t268 => (if t268 = true then (if (((rd_T56 x5 x7).f1).size : Int) > 160 then (some 4) else (if x7 > 0 then (if 0 ≤ (wrap64 (x7 - 1)) then (if (wrap64 (x7 - 1)) < (x0.length : Int) then (if ((Op.bytesLess (((rd_T56 x0 (wrap64 (x7 - 1))).f0).toList) (((rd_T56 x5 x7).f0).toList)) = true) then (cambiumref04_Check.l0 k x0 x5 x6 (wrap64 (x7 + 1))) else (some 4)) else (none)) else (none)) else (cambiumref04_Check.l0 k x0 x5 x6 (wrap64 (x7 + 1))))) else (some 4))) else (none)) else (none)) else (some 0)
def cambiumref04_Check.f (k : Nat) (l0 : List (S56)) : Option (Int) := cambiumref04_Check.l0 k l0 l0 (l0.length : Int) 0
theorem cambiumref04_Check.mono_l : ∀ k, (∀ y0 y1 y2 y3, LeO (cambiumref04_Check.l0 k y0 y1 y2 y3) (cambiumref04_Check.l0 (k + 1) y0 y1 y2 y3))
 | 0 => by intros; intro r h; simp [cambiumref04_Check.l0] at h
 | k + 1 => by
  have ih0 := cambiumref04_Check.mono_l k
  intros
  unfold cambiumref04_Check.l0
  repeat' (first | (with_reducible first | exact ih0 _ _ _ _ | exact LeO.refl _ | exact LeO.none _ | refine LeO.ite ?_ ?_ | refine LeO.bind ?_ (fun _ => ?_)))
theorem cambiumref04_Check.mono : ∀ a0 k, LeO (cambiumref04_Check.f k a0) (cambiumref04_Check.f (k + 1) a0) := by
 intro a0 k
 have ih0 := cambiumref04_Check.mono_l k
 unfold cambiumref04_Check.f
 repeat' (first | (with_reducible first | exact ih0 _ _ _ _ | exact LeO.refl _ | exact LeO.none _ | refine LeO.ite ?_ ?_ | refine LeO.bind ?_ (fun _ => ?_)))
set_option maxHeartbeats 64000000 in
set_option maxRecDepth 100000 in
theorem cambiumref04_Check.calls (k : Nat) (A0 : Option Addr) (c0 : Nat) (l0 : List (S56)) (r : Int) (w : World) (hr0 : Kd.C k56 w A0 l0.length l0) (hc0 : l0.length ≤ c0) (h : cambiumref04_Check.f k l0 = some r) :
  Calls Tryz.prog 29 #[.slice A0 l0.length c0] w fun e w' => e = .returned (.int .i64 r) ∧ Below w.heap.size w w' := by
 have hu56 := Tryz.underlying56
 have HR0 := ak_ hr0
 have HC0 := ak_ hc0
 clear hr0 hc0
 have HB := ak_ (Below.refl w.heap.size w)
 have H : (cambiumref04_Check.l0 k l0 l0 (l0.length : Int) 0) = some r := h
 clear h
 have H' := ak_ H
 clear H
 go_enter Tryz.func29, Tryz.ntmps29
 go_wp2
 go_loopg [7] k (fun kq v7 w' => ∃ (x7_1 : Int), v7 = .int .i64 x7_1 ∧ Aside0 (cambiumref04_Check.l0 kq l0 l0 (l0.length : Int) x7_1 = some r) ∧ Aside0 (kq ≤ k) ∧ Aside0 (Below w.heap.size w w'))
 case atStart => exact ⟨(0), rfl, H', ⟨Nat.le_refl _⟩, ⟨bel_⟩⟩
 case round =>
  clear H'
  obtain ⟨x7_1, rfl, HA, HK1, HB⟩ := hrel
  cases gk with
  | zero => exact absurd HA.out (by simp [cambiumref04_Check.l0])
  | succ k1 =>
   have H := HA.out
   clear HA
   simp only [cambiumref04_Check.l0] at H
   refine Or.elim (Classical.em (x7_1 < (l0.length : Int))) (fun c2 => ?p1_) (fun c2 => ?n1_)
   case' p1_ =>
    rw [if_pos c2] at H
    have c2b0 : decide (x7_1 < (l0.length : Int)) = true := decide_eq_true c2
    clear c2
    refine Or.elim (Classical.em (0 ≤ x7_1)) (fun c3 => ?p2_) (fun c3 => ?n2_)
    case' p2_ =>
     rw [if_pos c3] at H
     have c3b0 : decide (0 ≤ x7_1) = true := decide_eq_true c3
     clear c3
     refine Or.elim (Classical.em (x7_1 < (l0.length : Int))) (fun c4 => ?p3_) (fun c4 => ?n3_)
     case' p3_ =>
      rw [if_pos c4] at H
      have c4b0 : decide (x7_1 < (l0.length : Int)) = true := decide_eq_true c4
      clear c4
      replace H := Option.bind_eq_some_iff.mp H
      obtain ⟨t268, A50, H⟩ := H
      try dsimp only at H
      have A5 := ak_ A50
      clear A50
      refine Or.elim (Classical.em (t268 = true)) (fun c6 => ?p4_) (fun c6 => ?n4_)
      case' p4_ =>
       subst c6
       rw [if_pos rfl] at H
       refine Or.elim (Classical.em ((((rd_T56 l0 x7_1).f1).size : Int) > 160)) (fun c7 => ?p5_) (fun c7 => ?n5_)
       case' p5_ =>
        rw [if_pos c7] at H
        have c7b0 : decide (160 < (((rd_T56 l0 x7_1).f1).size : Int)) = true := decide_eq_true c7
        clear c7
        obtain rfl := Option.some.inj H
        have p266 : 0 ≤ (x7_1 : Int) := of_decide_eq_true (by first | (with_reducible assumption) | assumption)
        have q266 : x7_1 < (l0.length : Int) := of_decide_eq_true (by first | (with_reducible assumption) | assumption)
        obtain ⟨ad266, e266, hx266_0, hx266_1⟩ := at_T56 HR0.out x7_1 p266 q266
        cases e266
        replace hx266_0 := (HB.out.cell (World.block_lt_of_cell? w _ hx266_0)).trans hx266_0
        replace hx266_1 := (HB.out.cell (World.block_lt_of_cell? w _ hx266_1)).trans hx266_1
        replace p266 := eq_true p266
        replace q266 := eq_true q266
        refine ?z1_
       case' n5_ =>
        rw [if_neg c7] at H
        have c7b0 : decide (160 < (((rd_T56 l0 x7_1).f1).size : Int)) = false := decide_eq_false c7
        clear c7
        refine Or.elim (Classical.em (x7_1 > 0)) (fun c10 => ?p6_) (fun c10 => ?n6_)
        case' p6_ =>
         rw [if_pos c10] at H
         have c10b0 : decide (0 < x7_1) = true := decide_eq_true c10
         clear c10
         obtain ⟨ji11, hji11⟩ : ∃ j_ : Int, (wrap64 (x7_1 - 1)) = j_ := ⟨_, rfl⟩
         replace H : (if 0 ≤ (ji11) then (if (ji11) < (l0.length : Int) then (if ((Op.bytesLess (((rd_T56 l0 (ji11)).f0).toList) (((rd_T56 l0 x7_1).f0).toList)) = true) then (cambiumref04_Check.l0 k1 l0 l0 (l0.length : Int) (wrap64 (x7_1 + 1))) else (some 4)) else (none)) else (none)) = some r := by first | (rw [hji11] at H; exact H) | (simp only [hji11] at H ⊢; exact H)
         (try rw [hji11] at A5)
         have hji11w : (IntKind.i64.wrap (x7_1 - 1)) = ji11 := (i64_w _).trans hji11
         refine Or.elim (Classical.em (0 ≤ (ji11))) (fun c12 => ?p7_) (fun c12 => ?n7_)
         case' p7_ =>
          rw [if_pos c12] at H
          have c12b0 : decide (0 ≤ (ji11)) = true := decide_eq_true c12
          clear c12
          refine Or.elim (Classical.em ((ji11) < (l0.length : Int))) (fun c13 => ?p8_) (fun c13 => ?n8_)
          case' p8_ =>
           rw [if_pos c13] at H
           have c13b0 : decide ((ji11) < (l0.length : Int)) = true := decide_eq_true c13
           clear c13
           refine Or.elim (Classical.em (((Op.bytesLess (((rd_T56 l0 (ji11)).f0).toList) (((rd_T56 l0 x7_1).f0).toList)) = true))) (fun c14 => ?p9_) (fun c14 => ?n9_)
           case' p9_ =>
            rw [if_pos c14] at H
            have c14b0 : (Op.bytesLess (((rd_T56 l0 (ji11)).f0).toList) (((rd_T56 l0 x7_1).f0).toList)) = true := c14
            clear c14
            refine ?z4_
           case' n9_ =>
            rw [if_neg c14] at H
            have c14b0 : (Op.bytesLess (((rd_T56 l0 (ji11)).f0).toList) (((rd_T56 l0 x7_1).f0).toList)) = false := by simpa using c14
            clear c14
            obtain rfl := Option.some.inj H
            have p266 : 0 ≤ (x7_1 : Int) := of_decide_eq_true (by first | (with_reducible assumption) | assumption)
            have q266 : x7_1 < (l0.length : Int) := of_decide_eq_true (by first | (with_reducible assumption) | assumption)
            obtain ⟨ad266, e266, hx266_0, hx266_1⟩ := at_T56 HR0.out x7_1 p266 q266
            cases e266
            replace hx266_0 := (HB.out.cell (World.block_lt_of_cell? w _ hx266_0)).trans hx266_0
            replace hx266_1 := (HB.out.cell (World.block_lt_of_cell? w _ hx266_1)).trans hx266_1
            replace p266 := eq_true p266
            replace q266 := eq_true q266
            refine ?z2_
          case n8_ =>
           rw [if_neg c13] at H
           exact absurd H (by simp)
         case n7_ =>
          rw [if_neg c12] at H
          exact absurd H (by simp)
        case' n6_ =>
         rw [if_neg c10] at H
         have c10b0 : decide (0 < x7_1) = false := decide_eq_false c10
         clear c10
         refine ?z5_
      case' n4_ =>
       replace c6 := Bool.eq_false_iff.mpr c6
       subst c6
       rw [if_neg (show ¬ (false = true) by decide)] at H
       obtain rfl := Option.some.inj H
       have p266 : 0 ≤ (x7_1 : Int) := of_decide_eq_true (by first | (with_reducible assumption) | assumption)
       have q266 : x7_1 < (l0.length : Int) := of_decide_eq_true (by first | (with_reducible assumption) | assumption)
       obtain ⟨ad266, e266, hx266_0, hx266_1⟩ := at_T56 HR0.out x7_1 p266 q266
       cases e266
       replace hx266_0 := (HB.out.cell (World.block_lt_of_cell? w _ hx266_0)).trans hx266_0
       replace hx266_1 := (HB.out.cell (World.block_lt_of_cell? w _ hx266_1)).trans hx266_1
       replace p266 := eq_true p266
       replace q266 := eq_true q266
       refine ?z3_
     case n3_ =>
      rw [if_neg c4] at H
      exact absurd H (by simp)
    case n2_ =>
     rw [if_neg c3] at H
     exact absurd H (by simp)
   case n1_ =>
    rw [if_neg c2] at H
    have c2b0 : decide (x7_1 < (l0.length : Int)) = false := decide_eq_false c2
    clear c2
    obtain rfl := Option.some.inj H
    go_wp2
    go_ret
    exact ⟨rfl, bel_⟩
   case p5_ | n9_ | n4_ =>
    go_wp2_with (first | ((with_reducible refine gate_dst (N := 4) rfl ?_); (try (refine gate_guard (by rfl) ?_; dsimp only)); refine bx_ (N := 4) (cs := #[.string (⟨#[]⟩ : ByteArray), .string (⟨#[]⟩ : ByteArray)]) (t := 56) ?_; intro gb267 hg w901 hbox hb; have BK267 := ak_ (hbox); have GW267 := ge_ hg; have GE267 := ge_ hg; replace HB := hb_ hb; clear hb hbox hg; obtain ⟨hcz902_0, hcz902_1⟩ := cl2_ BK267; obtain ⟨hfz902_0, hfz902_1⟩ := fz2_ BK267) | (go_at_call 47; (with_reducible refine (cambiumref04_key.calls ((rd_T56 l0 x7_1).f0) true _ A5.out).mono ?_); rintro e w' ⟨rfl, ⟨nd, rfl⟩⟩; (try first | exact ⟨rfl, _, World.drewN_drewN _ _ _⟩ | exact ⟨rfl, _, Eq.trans (World.drewN_drewN _ _ _) (congrArg (World.drewN _) (Nat.add_assoc _ _ _))⟩); have p269 : 0 ≤ ((ji11) : Int) := of_decide_eq_true (by first | (with_reducible assumption) | assumption); have q269 : (ji11) < (l0.length : Int) := of_decide_eq_true (by first | (with_reducible assumption) | assumption); obtain ⟨ad269, e269, hx269_0, hx269_1⟩ := at_T56 HR0.out (ji11) p269 q269; obtain rfl : ad266 = ad269 := (by injection e269); have hn269_0 : ad266.block ≠ gb267 := Nat.ne_of_lt (Nat.lt_of_lt_of_le (by have := World.block_lt_of_cell? _ _ hx269_0; first | rwa [add_block] at this | exact this) GW267.out); have hn269_1 : ad266.block ≠ gb267 := Nat.ne_of_lt (Nat.lt_of_lt_of_le (by have := World.block_lt_of_cell? _ _ hx269_0; first | rwa [add_block] at this | exact this) GW267.out); replace hx269_0 := (HB.out.cell (World.block_lt_of_cell? w _ hx269_0)).trans hx269_0; replace hx269_1 := (HB.out.cell (World.block_lt_of_cell? w _ hx269_1)).trans hx269_1; replace hx269_0 := (cell_far (p := ⟨gb267, 0, none⟩) (by first | (rw [add_block]; exact hn269_0) | (show (Addr.add _ _).block ≠ _; rw [add_block]; exact hn269_0) | exact hn269_0) (.string ((rd_T56 l0 x7_1).f0))).trans hx269_0; replace hx269_1 := (cell_far (p := ⟨gb267, 0, none⟩) (by first | (rw [add_block]; exact hn269_0) | (show (Addr.add _ _).block ≠ _; rw [add_block]; exact hn269_0) | exact hn269_0) (.string ((rd_T56 l0 x7_1).f0))).trans hx269_1; replace hx269_0 := (cell_far (p := ⟨gb267, 1, none⟩) (by first | (rw [add_block]; exact hn269_1) | (show (Addr.add _ _).block ≠ _; rw [add_block]; exact hn269_1) | exact hn269_1) (.string ((rd_T56 l0 x7_1).f1))).trans hx269_0; replace hx269_1 := (cell_far (p := ⟨gb267, 1, none⟩) (by first | (rw [add_block]; exact hn269_1) | (show (Addr.add _ _).block ≠ _; rw [add_block]; exact hn269_1) | exact hn269_1) (.string ((rd_T56 l0 x7_1).f1))).trans hx269_1; (try have hy269_0 := fun (n_ : Nat) => (show ((((w901.drewN n_).setCell ⟨gb267, 0, none⟩ (.string ((rd_T56 l0 x7_1).f0))).setCell ⟨gb267, 1, none⟩ (.string ((rd_T56 l0 x7_1).f1)))).cell? _ = some _ from hx269_0)); (try have hy269_1 := fun (n_ : Nat) => (show ((((w901.drewN n_).setCell ⟨gb267, 0, none⟩ (.string ((rd_T56 l0 x7_1).f0))).setCell ⟨gb267, 1, none⟩ (.string ((rd_T56 l0 x7_1).f1)))).cell? _ = some _ from hx269_1)); clear hn269_0; clear hn269_1; replace p269 := eq_true p269; replace q269 := eq_true q269) | (go_at_call 47; (with_reducible refine (cambiumref04_key.calls ((rd_T56 l0 x7_1).f0) true _ A5.out).mono ?_); rintro e w' ⟨rfl, ⟨nd, rfl⟩⟩; (try first | exact ⟨rfl, _, World.drewN_drewN _ _ _⟩ | exact ⟨rfl, _, Eq.trans (World.drewN_drewN _ _ _) (congrArg (World.drewN _) (Nat.add_assoc _ _ _))⟩)) | (go_at_call 47; (with_reducible refine (cambiumref04_key.calls ((rd_T56 l0 x7_1).f0) false _ A5.out).mono ?_); rintro e w' ⟨rfl, ⟨nd, rfl⟩⟩; (try first | exact ⟨rfl, _, World.drewN_drewN _ _ _⟩ | exact ⟨rfl, _, Eq.trans (World.drewN_drewN _ _ _) (congrArg (World.drewN _) (Nat.add_assoc _ _ _))⟩)))
    repeat (go_quiet (first | ((with_reducible refine gate_dst (N := 4) rfl ?_); (try (refine gate_guard (by rfl) ?_; dsimp only)); refine bx_ (N := 4) (cs := #[.string (⟨#[]⟩ : ByteArray), .string (⟨#[]⟩ : ByteArray)]) (t := 56) ?_; intro gb267 hg w901 hbox hb; have n0_ := ak_ (below_step bel_ hb); have n1_ := ak_ (hbox); have n2_ := ak_ ((by rw [hg]; exact (below_size bel_) : w.heap.size ≤ gb267)); have n3_ := ak_ ((by rw [hg]; exact (below_size bel_) : w.heap.size ≤ gb267)); clear HB; have HB := n0_; have BK267 := n1_; have GW267 := n2_; have GE267 := n3_; clear n0_ n1_ n2_ n3_; clear hb hbox hg; have hcz902_0 : w901.cell? ⟨gb267, 0, none⟩ = some (.string (⟨#[]⟩ : ByteArray)) := (blk_cell BK267.out 0).trans rfl; have hcz902_1 : w901.cell? ⟨gb267, 1, none⟩ = some (.string (⟨#[]⟩ : ByteArray)) := (blk_cell BK267.out 1).trans rfl; have hfz902_0 := blk_frozen BK267.out 0; have hfz902_1 := blk_frozen BK267.out 1) | (go_at_call 47; (with_reducible refine (cambiumref04_key.calls ((rd_T56 l0 x7_1).f0) true _ A5.out).mono ?_); rintro e w' ⟨rfl, ⟨nd, rfl⟩⟩; (try first | exact ⟨rfl, _, World.drewN_drewN _ _ _⟩ | exact ⟨rfl, _, Eq.trans (World.drewN_drewN _ _ _) (congrArg (World.drewN _) (Nat.add_assoc _ _ _))⟩); have p269 : 0 ≤ ((ji11) : Int) := of_decide_eq_true (by first | (with_reducible assumption) | assumption); have q269 : (ji11) < (l0.length : Int) := of_decide_eq_true (by first | (with_reducible assumption) | assumption); obtain ⟨ad269, e269, hx269_0, hx269_1⟩ := at_T56 HR0.out (ji11) p269 q269; obtain rfl : ad266 = ad269 := (by injection e269); have hn269_0 : ad266.block ≠ gb267 := Nat.ne_of_lt (Nat.lt_of_lt_of_le (by have := World.block_lt_of_cell? _ _ hx269_0; first | rwa [add_block] at this | exact this) GW267.out); have hn269_1 : ad266.block ≠ gb267 := Nat.ne_of_lt (Nat.lt_of_lt_of_le (by have := World.block_lt_of_cell? _ _ hx269_0; first | rwa [add_block] at this | exact this) GW267.out); replace hx269_0 := (HB.out.cell (World.block_lt_of_cell? w _ hx269_0)).trans hx269_0; replace hx269_1 := (HB.out.cell (World.block_lt_of_cell? w _ hx269_1)).trans hx269_1; replace hx269_0 := (cell_far (p := ⟨gb267, 0, none⟩) (by first | (rw [add_block]; exact hn269_0) | (show (Addr.add _ _).block ≠ _; rw [add_block]; exact hn269_0) | exact hn269_0) (.string ((rd_T56 l0 x7_1).f0))).trans hx269_0; replace hx269_1 := (cell_far (p := ⟨gb267, 0, none⟩) (by first | (rw [add_block]; exact hn269_0) | (show (Addr.add _ _).block ≠ _; rw [add_block]; exact hn269_0) | exact hn269_0) (.string ((rd_T56 l0 x7_1).f0))).trans hx269_1; replace hx269_0 := (cell_far (p := ⟨gb267, 1, none⟩) (by first | (rw [add_block]; exact hn269_1) | (show (Addr.add _ _).block ≠ _; rw [add_block]; exact hn269_1) | exact hn269_1) (.string ((rd_T56 l0 x7_1).f1))).trans hx269_0; replace hx269_1 := (cell_far (p := ⟨gb267, 1, none⟩) (by first | (rw [add_block]; exact hn269_1) | (show (Addr.add _ _).block ≠ _; rw [add_block]; exact hn269_1) | exact hn269_1) (.string ((rd_T56 l0 x7_1).f1))).trans hx269_1; (try have hy269_0 := fun (n_ : Nat) => (show ((((w901.drewN n_).setCell ⟨gb267, 0, none⟩ (.string ((rd_T56 l0 x7_1).f0))).setCell ⟨gb267, 1, none⟩ (.string ((rd_T56 l0 x7_1).f1)))).cell? _ = some _ from hx269_0)); (try have hy269_1 := fun (n_ : Nat) => (show ((((w901.drewN n_).setCell ⟨gb267, 0, none⟩ (.string ((rd_T56 l0 x7_1).f0))).setCell ⟨gb267, 1, none⟩ (.string ((rd_T56 l0 x7_1).f1)))).cell? _ = some _ from hx269_1)); clear hn269_0; clear hn269_1; replace p269 := eq_true p269; replace q269 := eq_true q269) | (go_at_call 47; (with_reducible refine (cambiumref04_key.calls ((rd_T56 l0 x7_1).f0) true _ A5.out).mono ?_); rintro e w' ⟨rfl, ⟨nd, rfl⟩⟩; (try first | exact ⟨rfl, _, World.drewN_drewN _ _ _⟩ | exact ⟨rfl, _, Eq.trans (World.drewN_drewN _ _ _) (congrArg (World.drewN _) (Nat.add_assoc _ _ _))⟩)) | (go_at_call 47; (with_reducible refine (cambiumref04_key.calls ((rd_T56 l0 x7_1).f0) false _ A5.out).mono ?_); rintro e w' ⟨rfl, ⟨nd, rfl⟩⟩; (try first | exact ⟨rfl, _, World.drewN_drewN _ _ _⟩ | exact ⟨rfl, _, Eq.trans (World.drewN_drewN _ _ _) (congrArg (World.drewN _) (Nat.add_assoc _ _ _))⟩))); try go_wp2_with (first | ((with_reducible refine gate_dst (N := 4) rfl ?_); (try (refine gate_guard (by rfl) ?_; dsimp only)); refine bx_ (N := 4) (cs := #[.string (⟨#[]⟩ : ByteArray), .string (⟨#[]⟩ : ByteArray)]) (t := 56) ?_; intro gb267 hg w901 hbox hb; have BK267 := ak_ (hbox); have GW267 := ge_ hg; have GE267 := ge_ hg; replace HB := hb_ hb; clear hb hbox hg; obtain ⟨hcz902_0, hcz902_1⟩ := cl2_ BK267; obtain ⟨hfz902_0, hfz902_1⟩ := fz2_ BK267) | (go_at_call 47; (with_reducible refine (cambiumref04_key.calls ((rd_T56 l0 x7_1).f0) true _ A5.out).mono ?_); rintro e w' ⟨rfl, ⟨nd, rfl⟩⟩; (try first | exact ⟨rfl, _, World.drewN_drewN _ _ _⟩ | exact ⟨rfl, _, Eq.trans (World.drewN_drewN _ _ _) (congrArg (World.drewN _) (Nat.add_assoc _ _ _))⟩); have p269 : 0 ≤ ((ji11) : Int) := of_decide_eq_true (by first | (with_reducible assumption) | assumption); have q269 : (ji11) < (l0.length : Int) := of_decide_eq_true (by first | (with_reducible assumption) | assumption); obtain ⟨ad269, e269, hx269_0, hx269_1⟩ := at_T56 HR0.out (ji11) p269 q269; obtain rfl : ad266 = ad269 := (by injection e269); have hn269_0 : ad266.block ≠ gb267 := Nat.ne_of_lt (Nat.lt_of_lt_of_le (by have := World.block_lt_of_cell? _ _ hx269_0; first | rwa [add_block] at this | exact this) GW267.out); have hn269_1 : ad266.block ≠ gb267 := Nat.ne_of_lt (Nat.lt_of_lt_of_le (by have := World.block_lt_of_cell? _ _ hx269_0; first | rwa [add_block] at this | exact this) GW267.out); replace hx269_0 := (HB.out.cell (World.block_lt_of_cell? w _ hx269_0)).trans hx269_0; replace hx269_1 := (HB.out.cell (World.block_lt_of_cell? w _ hx269_1)).trans hx269_1; replace hx269_0 := (cell_far (p := ⟨gb267, 0, none⟩) (by first | (rw [add_block]; exact hn269_0) | (show (Addr.add _ _).block ≠ _; rw [add_block]; exact hn269_0) | exact hn269_0) (.string ((rd_T56 l0 x7_1).f0))).trans hx269_0; replace hx269_1 := (cell_far (p := ⟨gb267, 0, none⟩) (by first | (rw [add_block]; exact hn269_0) | (show (Addr.add _ _).block ≠ _; rw [add_block]; exact hn269_0) | exact hn269_0) (.string ((rd_T56 l0 x7_1).f0))).trans hx269_1; replace hx269_0 := (cell_far (p := ⟨gb267, 1, none⟩) (by first | (rw [add_block]; exact hn269_1) | (show (Addr.add _ _).block ≠ _; rw [add_block]; exact hn269_1) | exact hn269_1) (.string ((rd_T56 l0 x7_1).f1))).trans hx269_0; replace hx269_1 := (cell_far (p := ⟨gb267, 1, none⟩) (by first | (rw [add_block]; exact hn269_1) | (show (Addr.add _ _).block ≠ _; rw [add_block]; exact hn269_1) | exact hn269_1) (.string ((rd_T56 l0 x7_1).f1))).trans hx269_1; (try have hy269_0 := fun (n_ : Nat) => (show ((((w901.drewN n_).setCell ⟨gb267, 0, none⟩ (.string ((rd_T56 l0 x7_1).f0))).setCell ⟨gb267, 1, none⟩ (.string ((rd_T56 l0 x7_1).f1)))).cell? _ = some _ from hx269_0)); (try have hy269_1 := fun (n_ : Nat) => (show ((((w901.drewN n_).setCell ⟨gb267, 0, none⟩ (.string ((rd_T56 l0 x7_1).f0))).setCell ⟨gb267, 1, none⟩ (.string ((rd_T56 l0 x7_1).f1)))).cell? _ = some _ from hx269_1)); clear hn269_0; clear hn269_1; replace p269 := eq_true p269; replace q269 := eq_true q269) | (go_at_call 47; (with_reducible refine (cambiumref04_key.calls ((rd_T56 l0 x7_1).f0) true _ A5.out).mono ?_); rintro e w' ⟨rfl, ⟨nd, rfl⟩⟩; (try first | exact ⟨rfl, _, World.drewN_drewN _ _ _⟩ | exact ⟨rfl, _, Eq.trans (World.drewN_drewN _ _ _) (congrArg (World.drewN _) (Nat.add_assoc _ _ _))⟩)) | (go_at_call 47; (with_reducible refine (cambiumref04_key.calls ((rd_T56 l0 x7_1).f0) false _ A5.out).mono ?_); rintro e w' ⟨rfl, ⟨nd, rfl⟩⟩; (try first | exact ⟨rfl, _, World.drewN_drewN _ _ _⟩ | exact ⟨rfl, _, Eq.trans (World.drewN_drewN _ _ _) (congrArg (World.drewN _) (Nat.add_assoc _ _ _))⟩))))
    go_ret
    first | (exact ⟨by first | rfl | (simp [errW_none, errW_some] <;> rfl) | (simp only [← hji11]; first | rfl | (simp [errW_none, errW_some] <;> rfl)) | (simp [*, errW_none, errW_some] <;> rfl), bel_⟩) | (exact ⟨rfl, bel_⟩)
   case p9_ | n6_ =>
    have H' := ak_ H
    clear H
    have p266 : 0 ≤ (x7_1 : Int) := of_decide_eq_true (by first | (with_reducible assumption) | assumption)
    have q266 : x7_1 < (l0.length : Int) := of_decide_eq_true (by first | (with_reducible assumption) | assumption)
    obtain ⟨ad266, e266, hx266_0, hx266_1⟩ := at_T56 HR0.out x7_1 p266 q266
    cases e266
    replace hx266_0 := (HB.out.cell (World.block_lt_of_cell? w _ hx266_0)).trans hx266_0
    replace hx266_1 := (HB.out.cell (World.block_lt_of_cell? w _ hx266_1)).trans hx266_1
    replace p266 := eq_true p266
    replace q266 := eq_true q266
    go_wp2_with (first | ((with_reducible refine gate_dst (N := 4) rfl ?_); (try (refine gate_guard (by rfl) ?_; dsimp only)); refine bx_ (N := 4) (cs := #[.string (⟨#[]⟩ : ByteArray), .string (⟨#[]⟩ : ByteArray)]) (t := 56) ?_; intro gb267 hg w901 hbox hb; have BK267 := ak_ (hbox); have GW267 := ge_ hg; have GE267 := ge_ hg; replace HB := hb_ hb; clear hb hbox hg; obtain ⟨hcz902_0, hcz902_1⟩ := cl2_ BK267; obtain ⟨hfz902_0, hfz902_1⟩ := fz2_ BK267) | (go_at_call 47; (with_reducible refine (cambiumref04_key.calls ((rd_T56 l0 x7_1).f0) true _ A5.out).mono ?_); rintro e w' ⟨rfl, ⟨nd, rfl⟩⟩; (try first | exact ⟨rfl, _, World.drewN_drewN _ _ _⟩ | exact ⟨rfl, _, Eq.trans (World.drewN_drewN _ _ _) (congrArg (World.drewN _) (Nat.add_assoc _ _ _))⟩); have p269 : 0 ≤ ((ji11) : Int) := of_decide_eq_true (by first | (with_reducible assumption) | assumption); have q269 : (ji11) < (l0.length : Int) := of_decide_eq_true (by first | (with_reducible assumption) | assumption); obtain ⟨ad269, e269, hx269_0, hx269_1⟩ := at_T56 HR0.out (ji11) p269 q269; obtain rfl : ad266 = ad269 := (by injection e269); have hn269_0 : ad266.block ≠ gb267 := Nat.ne_of_lt (Nat.lt_of_lt_of_le (by have := World.block_lt_of_cell? _ _ hx269_0; first | rwa [add_block] at this | exact this) GW267.out); have hn269_1 : ad266.block ≠ gb267 := Nat.ne_of_lt (Nat.lt_of_lt_of_le (by have := World.block_lt_of_cell? _ _ hx269_0; first | rwa [add_block] at this | exact this) GW267.out); replace hx269_0 := (HB.out.cell (World.block_lt_of_cell? w _ hx269_0)).trans hx269_0; replace hx269_1 := (HB.out.cell (World.block_lt_of_cell? w _ hx269_1)).trans hx269_1; replace hx269_0 := (cell_far (p := ⟨gb267, 0, none⟩) (by first | (rw [add_block]; exact hn269_0) | (show (Addr.add _ _).block ≠ _; rw [add_block]; exact hn269_0) | exact hn269_0) (.string ((rd_T56 l0 x7_1).f0))).trans hx269_0; replace hx269_1 := (cell_far (p := ⟨gb267, 0, none⟩) (by first | (rw [add_block]; exact hn269_0) | (show (Addr.add _ _).block ≠ _; rw [add_block]; exact hn269_0) | exact hn269_0) (.string ((rd_T56 l0 x7_1).f0))).trans hx269_1; replace hx269_0 := (cell_far (p := ⟨gb267, 1, none⟩) (by first | (rw [add_block]; exact hn269_1) | (show (Addr.add _ _).block ≠ _; rw [add_block]; exact hn269_1) | exact hn269_1) (.string ((rd_T56 l0 x7_1).f1))).trans hx269_0; replace hx269_1 := (cell_far (p := ⟨gb267, 1, none⟩) (by first | (rw [add_block]; exact hn269_1) | (show (Addr.add _ _).block ≠ _; rw [add_block]; exact hn269_1) | exact hn269_1) (.string ((rd_T56 l0 x7_1).f1))).trans hx269_1; (try have hy269_0 := fun (n_ : Nat) => (show ((((w901.drewN n_).setCell ⟨gb267, 0, none⟩ (.string ((rd_T56 l0 x7_1).f0))).setCell ⟨gb267, 1, none⟩ (.string ((rd_T56 l0 x7_1).f1)))).cell? _ = some _ from hx269_0)); (try have hy269_1 := fun (n_ : Nat) => (show ((((w901.drewN n_).setCell ⟨gb267, 0, none⟩ (.string ((rd_T56 l0 x7_1).f0))).setCell ⟨gb267, 1, none⟩ (.string ((rd_T56 l0 x7_1).f1)))).cell? _ = some _ from hx269_1)); clear hn269_0; clear hn269_1; replace p269 := eq_true p269; replace q269 := eq_true q269) | (go_at_call 47; (with_reducible refine (cambiumref04_key.calls ((rd_T56 l0 x7_1).f0) true _ A5.out).mono ?_); rintro e w' ⟨rfl, ⟨nd, rfl⟩⟩; (try first | exact ⟨rfl, _, World.drewN_drewN _ _ _⟩ | exact ⟨rfl, _, Eq.trans (World.drewN_drewN _ _ _) (congrArg (World.drewN _) (Nat.add_assoc _ _ _))⟩)))
    repeat (go_quiet (first | ((with_reducible refine gate_dst (N := 4) rfl ?_); (try (refine gate_guard (by rfl) ?_; dsimp only)); refine bx_ (N := 4) (cs := #[.string (⟨#[]⟩ : ByteArray), .string (⟨#[]⟩ : ByteArray)]) (t := 56) ?_; intro gb267 hg w901 hbox hb; have n0_ := ak_ (below_step bel_ hb); have n1_ := ak_ (hbox); have n2_ := ak_ ((by rw [hg]; exact (below_size bel_) : w.heap.size ≤ gb267)); have n3_ := ak_ ((by rw [hg]; exact (below_size bel_) : w.heap.size ≤ gb267)); clear HB; have HB := n0_; have BK267 := n1_; have GW267 := n2_; have GE267 := n3_; clear n0_ n1_ n2_ n3_; clear hb hbox hg; have hcz902_0 : w901.cell? ⟨gb267, 0, none⟩ = some (.string (⟨#[]⟩ : ByteArray)) := (blk_cell BK267.out 0).trans rfl; have hcz902_1 : w901.cell? ⟨gb267, 1, none⟩ = some (.string (⟨#[]⟩ : ByteArray)) := (blk_cell BK267.out 1).trans rfl; have hfz902_0 := blk_frozen BK267.out 0; have hfz902_1 := blk_frozen BK267.out 1) | (go_at_call 47; (with_reducible refine (cambiumref04_key.calls ((rd_T56 l0 x7_1).f0) true _ A5.out).mono ?_); rintro e w' ⟨rfl, ⟨nd, rfl⟩⟩; (try first | exact ⟨rfl, _, World.drewN_drewN _ _ _⟩ | exact ⟨rfl, _, Eq.trans (World.drewN_drewN _ _ _) (congrArg (World.drewN _) (Nat.add_assoc _ _ _))⟩); have p269 : 0 ≤ ((ji11) : Int) := of_decide_eq_true (by first | (with_reducible assumption) | assumption); have q269 : (ji11) < (l0.length : Int) := of_decide_eq_true (by first | (with_reducible assumption) | assumption); obtain ⟨ad269, e269, hx269_0, hx269_1⟩ := at_T56 HR0.out (ji11) p269 q269; obtain rfl : ad266 = ad269 := (by injection e269); have hn269_0 : ad266.block ≠ gb267 := Nat.ne_of_lt (Nat.lt_of_lt_of_le (by have := World.block_lt_of_cell? _ _ hx269_0; first | rwa [add_block] at this | exact this) GW267.out); have hn269_1 : ad266.block ≠ gb267 := Nat.ne_of_lt (Nat.lt_of_lt_of_le (by have := World.block_lt_of_cell? _ _ hx269_0; first | rwa [add_block] at this | exact this) GW267.out); replace hx269_0 := (HB.out.cell (World.block_lt_of_cell? w _ hx269_0)).trans hx269_0; replace hx269_1 := (HB.out.cell (World.block_lt_of_cell? w _ hx269_1)).trans hx269_1; replace hx269_0 := (cell_far (p := ⟨gb267, 0, none⟩) (by first | (rw [add_block]; exact hn269_0) | (show (Addr.add _ _).block ≠ _; rw [add_block]; exact hn269_0) | exact hn269_0) (.string ((rd_T56 l0 x7_1).f0))).trans hx269_0; replace hx269_1 := (cell_far (p := ⟨gb267, 0, none⟩) (by first | (rw [add_block]; exact hn269_0) | (show (Addr.add _ _).block ≠ _; rw [add_block]; exact hn269_0) | exact hn269_0) (.string ((rd_T56 l0 x7_1).f0))).trans hx269_1; replace hx269_0 := (cell_far (p := ⟨gb267, 1, none⟩) (by first | (rw [add_block]; exact hn269_1) | (show (Addr.add _ _).block ≠ _; rw [add_block]; exact hn269_1) | exact hn269_1) (.string ((rd_T56 l0 x7_1).f1))).trans hx269_0; replace hx269_1 := (cell_far (p := ⟨gb267, 1, none⟩) (by first | (rw [add_block]; exact hn269_1) | (show (Addr.add _ _).block ≠ _; rw [add_block]; exact hn269_1) | exact hn269_1) (.string ((rd_T56 l0 x7_1).f1))).trans hx269_1; (try have hy269_0 := fun (n_ : Nat) => (show ((((w901.drewN n_).setCell ⟨gb267, 0, none⟩ (.string ((rd_T56 l0 x7_1).f0))).setCell ⟨gb267, 1, none⟩ (.string ((rd_T56 l0 x7_1).f1)))).cell? _ = some _ from hx269_0)); (try have hy269_1 := fun (n_ : Nat) => (show ((((w901.drewN n_).setCell ⟨gb267, 0, none⟩ (.string ((rd_T56 l0 x7_1).f0))).setCell ⟨gb267, 1, none⟩ (.string ((rd_T56 l0 x7_1).f1)))).cell? _ = some _ from hx269_1)); clear hn269_0; clear hn269_1; replace p269 := eq_true p269; replace q269 := eq_true q269) | (go_at_call 47; (with_reducible refine (cambiumref04_key.calls ((rd_T56 l0 x7_1).f0) true _ A5.out).mono ?_); rintro e w' ⟨rfl, ⟨nd, rfl⟩⟩; (try first | exact ⟨rfl, _, World.drewN_drewN _ _ _⟩ | exact ⟨rfl, _, Eq.trans (World.drewN_drewN _ _ _) (congrArg (World.drewN _) (Nat.add_assoc _ _ _))⟩))); try go_wp2_with (first | ((with_reducible refine gate_dst (N := 4) rfl ?_); (try (refine gate_guard (by rfl) ?_; dsimp only)); refine bx_ (N := 4) (cs := #[.string (⟨#[]⟩ : ByteArray), .string (⟨#[]⟩ : ByteArray)]) (t := 56) ?_; intro gb267 hg w901 hbox hb; have BK267 := ak_ (hbox); have GW267 := ge_ hg; have GE267 := ge_ hg; replace HB := hb_ hb; clear hb hbox hg; obtain ⟨hcz902_0, hcz902_1⟩ := cl2_ BK267; obtain ⟨hfz902_0, hfz902_1⟩ := fz2_ BK267) | (go_at_call 47; (with_reducible refine (cambiumref04_key.calls ((rd_T56 l0 x7_1).f0) true _ A5.out).mono ?_); rintro e w' ⟨rfl, ⟨nd, rfl⟩⟩; (try first | exact ⟨rfl, _, World.drewN_drewN _ _ _⟩ | exact ⟨rfl, _, Eq.trans (World.drewN_drewN _ _ _) (congrArg (World.drewN _) (Nat.add_assoc _ _ _))⟩); have p269 : 0 ≤ ((ji11) : Int) := of_decide_eq_true (by first | (with_reducible assumption) | assumption); have q269 : (ji11) < (l0.length : Int) := of_decide_eq_true (by first | (with_reducible assumption) | assumption); obtain ⟨ad269, e269, hx269_0, hx269_1⟩ := at_T56 HR0.out (ji11) p269 q269; obtain rfl : ad266 = ad269 := (by injection e269); have hn269_0 : ad266.block ≠ gb267 := Nat.ne_of_lt (Nat.lt_of_lt_of_le (by have := World.block_lt_of_cell? _ _ hx269_0; first | rwa [add_block] at this | exact this) GW267.out); have hn269_1 : ad266.block ≠ gb267 := Nat.ne_of_lt (Nat.lt_of_lt_of_le (by have := World.block_lt_of_cell? _ _ hx269_0; first | rwa [add_block] at this | exact this) GW267.out); replace hx269_0 := (HB.out.cell (World.block_lt_of_cell? w _ hx269_0)).trans hx269_0; replace hx269_1 := (HB.out.cell (World.block_lt_of_cell? w _ hx269_1)).trans hx269_1; replace hx269_0 := (cell_far (p := ⟨gb267, 0, none⟩) (by first | (rw [add_block]; exact hn269_0) | (show (Addr.add _ _).block ≠ _; rw [add_block]; exact hn269_0) | exact hn269_0) (.string ((rd_T56 l0 x7_1).f0))).trans hx269_0; replace hx269_1 := (cell_far (p := ⟨gb267, 0, none⟩) (by first | (rw [add_block]; exact hn269_0) | (show (Addr.add _ _).block ≠ _; rw [add_block]; exact hn269_0) | exact hn269_0) (.string ((rd_T56 l0 x7_1).f0))).trans hx269_1; replace hx269_0 := (cell_far (p := ⟨gb267, 1, none⟩) (by first | (rw [add_block]; exact hn269_1) | (show (Addr.add _ _).block ≠ _; rw [add_block]; exact hn269_1) | exact hn269_1) (.string ((rd_T56 l0 x7_1).f1))).trans hx269_0; replace hx269_1 := (cell_far (p := ⟨gb267, 1, none⟩) (by first | (rw [add_block]; exact hn269_1) | (show (Addr.add _ _).block ≠ _; rw [add_block]; exact hn269_1) | exact hn269_1) (.string ((rd_T56 l0 x7_1).f1))).trans hx269_1; (try have hy269_0 := fun (n_ : Nat) => (show ((((w901.drewN n_).setCell ⟨gb267, 0, none⟩ (.string ((rd_T56 l0 x7_1).f0))).setCell ⟨gb267, 1, none⟩ (.string ((rd_T56 l0 x7_1).f1)))).cell? _ = some _ from hx269_0)); (try have hy269_1 := fun (n_ : Nat) => (show ((((w901.drewN n_).setCell ⟨gb267, 0, none⟩ (.string ((rd_T56 l0 x7_1).f0))).setCell ⟨gb267, 1, none⟩ (.string ((rd_T56 l0 x7_1).f1)))).cell? _ = some _ from hx269_1)); clear hn269_0; clear hn269_1; replace p269 := eq_true p269; replace q269 := eq_true q269) | (go_at_call 47; (with_reducible refine (cambiumref04_key.calls ((rd_T56 l0 x7_1).f0) true _ A5.out).mono ?_); rintro e w' ⟨rfl, ⟨nd, rfl⟩⟩; (try first | exact ⟨rfl, _, World.drewN_drewN _ _ _⟩ | exact ⟨rfl, _, Eq.trans (World.drewN_drewN _ _ _) (congrArg (World.drewN _) (Nat.add_assoc _ _ _))⟩))))
    go_roundg k1
    case measure => have := HK1.out; omega
    case rel => exact ⟨(wrap64 (x7_1 + 1)), rfl, H', ⟨by have := HK1.out; omega⟩, ⟨bel_⟩⟩
end Go.Proofs.YtpnmajblhgnkoaaGreat.Z
end

section
namespace Go.Proofs.YtpnmajblhgnkoaaGreat.Z
theorem rkk_f (a : ByteArray) : cambiumref04_key.f a = some (okK a) := by
  unfold cambiumref04_key.f okK
  by_cases h : a.toList = []
  · simp [h]
  · rw [if_neg h]
    have : decide ((a.size : Int) ≤ 48) = decide (a.size ≤ 48) := decide_eq_decide.2 (by omega)
    simp [h, this]
theorem refCheck_l0 (l : List It) (hl : l.length ≤ 4398046511104) : ∀ d i : Nat, l.length = i + d → Ev (fun k => cambiumref04_Check.l0 k l l (l.length : Int) (i : Int)) (ckS (okF (prv l i) (l.drop i)))
  | 0, i, hi => by
    refine Ev.step (fun k => by rw [cambiumref04_Check.l0]) ?_
    refine Ev.ifn (by omega) (Ev.const ?_)
    rw [List.drop_of_length_le (by omega)]
    unfold okF; rfl
  | d + 1, i, hi => by
    have hlt : i < l.length := by omega
    have ih := refCheck_l0 l hl d (i + 1) (by omega)
    rw [okF_at l i hlt]
    refine Ev.step (fun k => by rw [cambiumref04_Check.l0]) ?_
    refine Ev.ifp (by omega) (Ev.ifp (by omega) (Ev.ifp (by omega) (Ev.bindc (by rw [rd_get l i hlt]; exact rkk_f _) ?_)))
    rw [rd_get l i hlt]
    have hk : okI l[i] = (okK (l[i]).f0 && decide ((l[i]).f1.size ≤ 160)) := rfl
    rw [hk]
    cases hr : okK (l[i]).f0 with
    | false => exact Ev.ifn (by simp) (Ev.const rfl)
    | true =>
      refine Ev.ifp rfl ?_
      by_cases hv : ((l[i]).f1.size : Int) > 160
      · refine Ev.ifp hv (Ev.const ?_)
        have : ¬ (l[i]).f1.size ≤ 160 := by omega
        simp [this, ckS]
      · refine Ev.ifn hv ?_
        have hv2 : (l[i]).f1.size ≤ 160 := by omega
        rw [w64 (i := (i : Int) + 1) (by omega) (by omega)]
        cases i with
        | zero =>
          refine Ev.ifn (by omega) (Ev.val ih ?_)
          simp [prv, hv2]
        | succ j =>
          refine Ev.ifp (by omega) ?_
          have e : wrap64 (((j + 1 : Nat) : Int) - 1) = (j : Int) := by rw [w64 (by omega) (by omega)]; omega
          rw [e]
          refine Ev.ifp (by omega) (Ev.ifp (by omega) ?_)
          rw [rd_get l j (by omega)]
          rw [prv_succ l j (by omega)]
          cases hb : Op.bytesLess (l[j]).f0.toList (l[j + 1]).f0.toList with
          | false =>
            refine Ev.ifn (by simp) (Ev.const ?_)
            simp [ckS, key, hb]
          | true =>
            refine Ev.ifp rfl (Ev.val ih ?_)
            simp [key, hb, hv2]
theorem refCheck (l : List It) (hl : l.length ≤ 4398046511104) : Ev (fun k => cambiumref04_Check.f k l) (ckS (okL l)) := refCheck_l0 l hl l.length 0 (by omega)
end Go.Proofs.YtpnmajblhgnkoaaGreat.Z
end

section
namespace Go.Proofs.YtpnmajblhgnkoaaGreat.Z
attribute [local go_sem] max2_int min2_int max_two min_two max_three min_three max_four min_four   -- for this text's walks alone
def cambiumref01_Bytes.l0 : Nat → Int → Int → ByteArray → Int → Option (ByteArray)
 | 0, _, _, _, _ => none
 | k + 1, x0, x1, x5, x6 => if x6 < x1 then ((some (([(x0) % 256] : List Int) : List Int)).bind fun y209 => (if (strOfNums y209).size + x5.size ≤ 9223372036854775807 then (cambiumref01_Bytes.l0 k (IntKind.u64.wrap (Int.tdiv x0 256)) x1 ((strOfNums y209) ++ x5) (wrap64 (x6 + 1))) else (none))) else (some x5)
def cambiumref01_Bytes.f (k : Nat) (a0 : Int) (a1 : Int) : Option (ByteArray) := cambiumref01_Bytes.l0 k a0 a1 (⟨#[]⟩ : ByteArray) 0
theorem cambiumref01_Bytes.mono_l : ∀ k, (∀ y0 y1 y2 y3, LeO (cambiumref01_Bytes.l0 k y0 y1 y2 y3) (cambiumref01_Bytes.l0 (k + 1) y0 y1 y2 y3))
 | 0 => by intros; intro r h; simp [cambiumref01_Bytes.l0] at h
 | k + 1 => by
  have ih0 := cambiumref01_Bytes.mono_l k
  intros
  unfold cambiumref01_Bytes.l0
  repeat' (first | (with_reducible first | exact ih0 _ _ _ _ | exact LeO.refl _ | exact LeO.none _ | refine LeO.ite ?_ ?_ | refine LeO.bind ?_ (fun _ => ?_)))
theorem cambiumref01_Bytes.mono : ∀ a0 a1 k, LeO (cambiumref01_Bytes.f k a0 a1) (cambiumref01_Bytes.f (k + 1) a0 a1) := by
 intro a0 a1 k
 have ih0 := cambiumref01_Bytes.mono_l k
 unfold cambiumref01_Bytes.f
 repeat' (first | (with_reducible first | exact ih0 _ _ _ _ | exact LeO.refl _ | exact LeO.none _ | refine LeO.ite ?_ ?_ | refine LeO.bind ?_ (fun _ => ?_)))
set_option maxHeartbeats 8000000 in
set_option maxRecDepth 100000 in
theorem cambiumref01_Bytes.calls (k : Nat) (a0 : Int) (a1 : Int) (r : ByteArray) (w : World) (h : cambiumref01_Bytes.f k a0 a1 = some r) :
  Calls Tryz.prog 54 #[.int .u64 a0, .int .i64 a1] w fun e w' => e = .returned (.string r) ∧ Below w.heap.size w w' := by
 have HB := ak_ (Below.refl w.heap.size w)
 have H : (cambiumref01_Bytes.l0 k a0 a1 (⟨#[]⟩ : ByteArray) 0) = some r := h
 clear h
 have H' := ak_ H
 clear H
 go_enter Tryz.func54, Tryz.ntmps54
 go_wp2
 go_loopg [0, 5, 6] k (fun kq v0 v5 v6 w' => ∃ (x0_1 : Int) (x5_1 : ByteArray) (x6_1 : Int), v0 = .int .u64 x0_1 ∧ v5 = .string x5_1 ∧ v6 = .int .i64 x6_1 ∧ Aside0 (cambiumref01_Bytes.l0 kq x0_1 a1 x5_1 x6_1 = some r) ∧ Aside0 (kq ≤ k) ∧ Aside0 (Below w.heap.size w w'))
 case atStart => exact ⟨(a0), ((⟨#[]⟩ : ByteArray)), (0), (by first | rfl | (simp; done) | (simp [*]; done)), (by first | rfl | (simp; done) | (simp [*]; done)), (by first | rfl | (simp; done) | (simp [*]; done)), H', ⟨Nat.le_refl _⟩, ⟨bel_⟩⟩
 case round =>
  clear H'
  try clear p2
  obtain ⟨x0_1, x5_1, x6_1, rfl, rfl, rfl, HA, HK1, HB⟩ := hrel
  cases gk with
  | zero => exact absurd HA.out (by simp [cambiumref01_Bytes.l0])
  | succ k1 =>
   have H := HA.out
   clear HA
   simp only [cambiumref01_Bytes.l0] at H
   by_cases c3 : x6_1 < a1
   ·rw [if_pos c3] at H
    have c3b0 : decide (x6_1 < a1) = true := decide_eq_true c3
    clear c3
    obtain ⟨y209, hy209⟩ : ∃ y_ : List Int, y_ = (([(x0_1) % 256] : List Int)) := ⟨_, rfl⟩
    replace H : (if (strOfNums y209).size + x5_1.size ≤ 9223372036854775807 then (cambiumref01_Bytes.l0 k1 (IntKind.u64.wrap (Int.tdiv x0_1 256)) a1 ((strOfNums y209) ++ x5_1) (wrap64 (x6_1 + 1))) else (none)) = some r := by first | (rw [hy209]; with_reducible exact H) | (have H2_ := (Option.bind_some _ _).symm.trans H; rw [hy209]; with_reducible exact H2_) | (have H2_ := (Option.bind_some _ _).symm.trans H; with_reducible exact H2_) | with_reducible exact H | (rw [hy209]; exact H) | exact H
    have Ny209 := ak_ hy209
    clear hy209
    by_cases c4 : (strOfNums y209).size + x5_1.size ≤ 9223372036854775807
    ·rw [if_pos c4] at H
     have c4b0 := eq_true c4
     have c4b1 : decide ((strOfNums y209).size + x5_1.size ≤ 9223372036854775807) = true := decide_eq_true c4
     try have c4b2 : (9223372036854775807 < (strOfNums y209).size + x5_1.size) = False := eq_false (Nat.not_lt.2 c4)
     have H' := ak_ H
     clear H
     go_wp2_with (first | ((with_reducible refine gate_dst (N := 14) rfl ?_); refine Kd.R_lit (Kd.int .u8) _ 5 ?hg (N := 14) ?hd (xs := ([(x0_1) % 256] : List Int)) (inner := [.int .u8 ((x0_1) % 256)]) (ok := fun _ => True) (okp := fun _ => True) ?hr ?hp (fun _ hk => hk) trivial (Below.refl _ _) (Nat.le_refl _) (by simp) ?_; (case hd => rfl); (case hg => rfl); (case hr => first | (go_simp; done) | (go_simp; rfl)); (case hp => exact (Reps.one (show Kd.M (Kd.int .u8) _ _ _ ((x0_1) % 256) [.int .u8 ((x0_1) % 256)] from rfl) (Reps.none _ _))); intro v210 w5 ho6 hb hg_ hnew_; clear hg_ hnew_; (first | rw [← Ny209.out] at ho6 | (simp only [Int.reduceToNat] at ho6; rw [← Ny209.out] at ho6)); have HO211 := rl_ ho6; replace HB := hb_ hb; clear hb ho6; have hcv7 := own_string (P := Tryz.prog) Tryz.underlying123 Tryz.underlying5 Tryz.underlying9 (Kd.own_of_R HO211.out)))
     go_roundg k1
     case measure => have := HK1.out; omega
     case rel => exact ⟨(IntKind.u64.wrap (Int.tdiv x0_1 256)), ((strOfNums y209) ++ x5_1), (wrap64 (x6_1 + 1)), (by first | rfl | (simp; done) | (simp [*]; done)), (by first | rfl | (simp; done) | (simp [*]; done)), (by first | rfl | (simp; done) | (simp [*]; done)), H', ⟨by have := HK1.out; omega⟩, ⟨bel_⟩⟩
    rw [if_neg c4] at H
    exact absurd H (by simp)
   rw [if_neg c3] at H
   have c3b0 : decide (x6_1 < a1) = false := decide_eq_false c3
   clear c3
   obtain rfl := Option.some.inj H
   go_wp2
   go_ret
   exact ⟨by first | rfl | (simp [errW_none, errW_some] <;> rfl) | (simp [*, errW_none, errW_some] <;> rfl), bel_⟩
mutual
def cambiumref01_TakeNumber.j0 : Nat → ByteArray → Int → Bool → Option (Int × ByteArray × Int)
 | 0, _, _, _ => none
 | k + 1, x0, x1, x14 => if x14 = true then (some (0, (⟨#[]⟩ : ByteArray), 1)) else (if (x0.size : Int) < x1 then (some (0, (⟨#[]⟩ : ByteArray), 3)) else (cambiumref01_TakeNumber.l0 k x0 x1 0 0))
def cambiumref01_TakeNumber.l0 : Nat → ByteArray → Int → Int → Int → Option (Int × ByteArray × Int)
 | 0, _, _, _, _ => none
 | k + 1, x0, x1, x7, x8 => if x8 < x1 then (if 0 ≤ x8 then (if x8 < (x0.size : Int) then (cambiumref01_TakeNumber.l0 k x0 x1 (IntKind.u64.wrap ((IntKind.u64.wrap (x7 * 256)) + (IntKind.u64.wrap (bt x0 x8)))) (wrap64 (x8 + 1))) else (none)) else (none)) else (if 0 ≤ x1 then (if x1 ≤ (x0.size : Int) then (some (x7, x0.extract (x1 : Int).toNat x0.size, 0)) else (none)) else (none))
end
def cambiumref01_TakeNumber.f (k : Nat) (a0 : ByteArray) (a1 : Int) : Option (Int × ByteArray × Int) := if a1 < 1 then (cambiumref01_TakeNumber.j0 k a0 a1 true) else (cambiumref01_TakeNumber.j0 k a0 a1 (decide (a1 > 8)))
theorem cambiumref01_TakeNumber.mono_l : ∀ k, (∀ y0 y1 y2, LeO (cambiumref01_TakeNumber.j0 k y0 y1 y2) (cambiumref01_TakeNumber.j0 (k + 1) y0 y1 y2)) ∧ (∀ y0 y1 y2 y3, LeO (cambiumref01_TakeNumber.l0 k y0 y1 y2 y3) (cambiumref01_TakeNumber.l0 (k + 1) y0 y1 y2 y3))
 | 0 => by
  refine ⟨?_, ?_⟩ <;> (intros; intro r h; simp [cambiumref01_TakeNumber.j0, cambiumref01_TakeNumber.l0] at h)
 | k + 1 => by
  obtain ⟨ih0, ih1⟩ := cambiumref01_TakeNumber.mono_l k
  refine ⟨?_, ?_⟩ <;> (intros; (first | unfold cambiumref01_TakeNumber.j0 | unfold cambiumref01_TakeNumber.l0); repeat' (first | (with_reducible first | exact ih0 _ _ _ | exact ih1 _ _ _ _ | exact LeO.refl _ | exact LeO.none _ | refine LeO.ite ?_ ?_ | refine LeO.bind ?_ (fun _ => ?_))))
theorem cambiumref01_TakeNumber.mono : ∀ a0 a1 k, LeO (cambiumref01_TakeNumber.f k a0 a1) (cambiumref01_TakeNumber.f (k + 1) a0 a1) := by
 intro a0 a1 k
 obtain ⟨ih0, ih1⟩ := cambiumref01_TakeNumber.mono_l k
 unfold cambiumref01_TakeNumber.f
 repeat' (first | (with_reducible first | exact ih0 _ _ _ | exact ih1 _ _ _ _ | exact LeO.refl _ | exact LeO.none _ | refine LeO.ite ?_ ?_ | refine LeO.bind ?_ (fun _ => ?_)))
set_option maxHeartbeats 8000000 in
set_option maxRecDepth 100000 in
theorem cambiumref01_TakeNumber.calls (k : Nat) (a0 : ByteArray) (a1 : Int) (r1 : Int) (r2 : ByteArray) (r3 : Int) (w : World) (h : cambiumref01_TakeNumber.f k a0 a1 = some (r1, r2, r3)) :
  Calls Tryz.prog 44 #[.string a0, .int .i64 a1] w fun e w' => e = .returned (.tuple #[.int .u64 r1, .string r2, .int .i64 r3]) ∧ Drawn0 w w' := by
 have H : (if a1 < 1 then (cambiumref01_TakeNumber.j0 k a0 a1 true) else (cambiumref01_TakeNumber.j0 k a0 a1 (decide (a1 > 8)))) = some (r1, r2, r3) := h
 clear h
 have HC3 := ak_ H
 clear H
 go_enter Tryz.func44, Tryz.ntmps44
 go_upto_region 1 with (fail)
 repeat (go_quiet (fail); go_upto_region 1 with (fail))
 go_cut [14] (fun v14 wc => ∃ (kq : Nat) (x14_2 : Bool), v14 = .bool x14_2 ∧ Aside0 (cambiumref01_TakeNumber.j0 kq a0 a1 x14_2 = some (r1, r2, r3)) ∧ Aside0 (kq ≤ k) ∧ Drawn0 w wc)
 case first =>
  have H := HC3.out
  clear HC3
  by_cases c4 : a1 < 1
  ·rw [if_pos c4] at H
   have c4b0 : decide (a1 < 1) = true := decide_eq_true c4
   clear c4
   (first | rw [c4b0] | (simp only [i64_w, i32_w]; rw [c4b0]) | skip)
   have H' := ak_ H
   clear H
   go_wp2
   repeat (go_quiet (fail); try go_wp2)
   go_meet
   case rel => exact ⟨_, (true), (by first | rfl | (simp; done) | (simp [*]; done)), H', ⟨by first | omega | exact Nat.le_refl _⟩, by repeat (first | exact Drawn0.refl _ | apply Drawn0.step)⟩
  rw [if_neg c4] at H
  have c4b0 : decide (a1 < 1) = false := decide_eq_false c4
  clear c4
  (first | rw [c4b0] | (simp only [i64_w, i32_w]; rw [c4b0]) | skip)
  have H' := ak_ H
  clear H
  go_wp2
  repeat (go_quiet (fail); try go_wp2)
  go_meet
  case rel => exact ⟨_, (decide (a1 > 8)), (by first | rfl | (simp; done) | (simp [*]; done)), H', ⟨by first | omega | exact Nat.le_refl _⟩, by repeat (first | exact Drawn0.refl _ | apply Drawn0.step)⟩
 case rest =>
  clear HC3
  try clear p2
  try clear c4
  try clear c4b0
  obtain ⟨kq, x14_2, rfl, HA, HJ2, ⟨mc2, rfl⟩⟩ := hcut
  cases kq with
  | zero => exact absurd HA.out (by simp [cambiumref01_TakeNumber.j0])
  | succ kj2 =>
   have H := HA.out
   clear HA
   simp only [cambiumref01_TakeNumber.j0] at H
   by_cases c5 : x14_2 = true
   ·subst c5
    rw [if_pos rfl] at H
    simp only [Option.some.injEq, Prod.mk.injEq] at H
    obtain ⟨rfl, rfl, rfl⟩ := H
    go_wp2
    repeat (go_quiet (fail); try go_wp2)
    go_ret3
    exact ⟨by first | rfl | (simp; done) | (simp [*]; done), by repeat (first | exact Drawn0.refl _ | apply Drawn0.step)⟩
   replace c5 := Bool.eq_false_iff.mpr c5
   subst c5
   rw [if_neg (show ¬ (false = true) by decide)] at H
   by_cases c6 : (a0.size : Int) < a1
   ·rw [if_pos c6] at H
    have c6b0 : decide ((a0.size : Int) < a1) = true := decide_eq_true c6
    clear c6
    simp only [Option.some.injEq, Prod.mk.injEq] at H
    obtain ⟨rfl, rfl, rfl⟩ := H
    go_wp2
    repeat (go_quiet (fail); try go_wp2)
    go_ret3
    exact ⟨by first | rfl | (simp; done) | (simp [*]; done), by repeat (first | exact Drawn0.refl _ | apply Drawn0.step)⟩
   rw [if_neg c6] at H
   have c6b0 : decide ((a0.size : Int) < a1) = false := decide_eq_false c6
   clear c6
   have H' := ak_ H
   clear H
   go_wp2
   repeat (go_quiet (fail); try go_wp2)
   go_loopg [7, 8] kj2 (fun kq v7 v8 w' => ∃ (x7_2 : Int) (x8_2 : Int), v7 = .int .u64 x7_2 ∧ v8 = .int .i64 x8_2 ∧ Aside0 (cambiumref01_TakeNumber.l0 kq a0 a1 x7_2 x8_2 = some (r1, r2, r3)) ∧ Aside0 (kq ≤ kj2) ∧ Drawn0 w w')
   case atStart => exact ⟨(0), (0), (by first | rfl | (simp; done) | (simp [*]; done)), (by first | rfl | (simp; done) | (simp [*]; done)), H', ⟨Nat.le_refl _⟩, by repeat (first | exact Drawn0.refl _ | apply Drawn0.step)⟩
   case round =>
    clear H'
    try clear c2
    try clear p2
    try clear c4
    try clear c4b0
    try clear c5
    try clear c6
    try clear c6b0
    try clear p2
    obtain ⟨x7_2, x8_2, rfl, rfl, HA, HK2, ⟨m2, rfl⟩⟩ := hrel
    cases gk with
    | zero => exact absurd HA.out (by simp [cambiumref01_TakeNumber.l0])
    | succ k2 =>
     have H := HA.out
     clear HA
     simp only [cambiumref01_TakeNumber.l0] at H
     by_cases c7 : x8_2 < a1
     ·rw [if_pos c7] at H
      have c7b0 : decide (x8_2 < a1) = true := decide_eq_true c7
      clear c7
      by_cases c8 : 0 ≤ x8_2
      ·rw [if_pos c8] at H
       have c8b0 : decide (0 ≤ x8_2) = true := decide_eq_true c8
       clear c8
       by_cases c9 : x8_2 < (a0.size : Int)
       ·rw [if_pos c9] at H
        have c9b0 : decide (x8_2 < (a0.size : Int)) = true := decide_eq_true c9
        clear c9
        have H' := ak_ H
        clear H
        have p10 : 0 ≤ (x8_2 : Int) := of_decide_eq_true (by first | (with_reducible assumption) | assumption)
        have q10 : x8_2 < (a0.size : Int) := of_decide_eq_true (by first | (with_reducible assumption) | assumption)
        have hx10 := bt_at a0 x8_2
        replace p10 := eq_true p10
        replace q10 := eq_true q10
        go_wp2
        repeat (go_quiet (fail); try go_wp2)
        go_roundg k2
        case measure => have := HJ2.out; have := HK2.out; omega
        case rel => exact ⟨(IntKind.u64.wrap ((IntKind.u64.wrap (x7_2 * 256)) + (IntKind.u64.wrap (bt a0 x8_2)))), (wrap64 (x8_2 + 1)), (by first | rfl | (simp; done) | (simp [*]; done)), (by first | rfl | (simp; done) | (simp [*]; done)), H', ⟨by have := HJ2.out; have := HK2.out; omega⟩, by repeat (first | exact Drawn0.refl _ | apply Drawn0.step)⟩
       rw [if_neg c9] at H
       exact absurd H (by simp)
      rw [if_neg c8] at H
      exact absurd H (by simp)
     rw [if_neg c7] at H
     have c7b0 : decide (x8_2 < a1) = false := decide_eq_false c7
     clear c7
     by_cases c11 : 0 ≤ a1
     ·rw [if_pos c11] at H
      have c11b0 := eq_true c11
      have c11b1 : decide (0 ≤ a1) = true := decide_eq_true c11
      clear c11
      by_cases c12 : a1 ≤ (a0.size : Int)
      ·rw [if_pos c12] at H
       have c12b0 := eq_true c12
       have c12b1 : decide (a1 ≤ (a0.size : Int)) = true := decide_eq_true c12
       clear c12
       simp only [Option.some.injEq, Prod.mk.injEq] at H
       obtain ⟨rfl, rfl, rfl⟩ := H
       go_wp2
       repeat (go_quiet (fail); try go_wp2)
       go_ret3
       exact ⟨by first | rfl | (simp; done) | (simp [*]; done), by repeat (first | exact Drawn0.refl _ | apply Drawn0.step)⟩
      rw [if_neg c12] at H
      exact absurd H (by simp)
     rw [if_neg c11] at H
     exact absurd H (by simp)
end Go.Proofs.YtpnmajblhgnkoaaGreat.Z
end

section
namespace Go.Proofs.YtpnmajblhgnkoaaGreat.Z
open Go.Proofs.YtpnmajblhgnkoaaGreat.PM
theorem bytes_l0 (n w : Nat) (hw : w ≤ 8) (hn : n < 18446744073709551616) : ∀ d i : Nat, w = i + d →
    Ev (fun k => cambiumref01_Bytes.l0 k ((n / 256 ^ i : Nat) : Int) (w : Int) (ba (be i n)) (i : Int)) (ba (be w n))
  | 0, i, hi => by
    refine Ev.step (fun k => by rw [cambiumref01_Bytes.l0]) ?_
    obtain rfl : w = i := by omega
    exact Ev.ifn (by omega) (Ev.const rfl)
  | d + 1, i, hi => by
    refine Ev.step (fun k => by rw [cambiumref01_Bytes.l0]) ?_
    have e3 : wrap64 ((i : Int) + 1) = ((i + 1 : Nat) : Int) := by rw [w64 (by omega) (by omega)]; omega
    have hle : n / 256 ^ i ≤ n := Nat.div_le_self _ _
    have e1 : strOfNums [((n / 256 ^ i : Nat) : Int) % 256] = ba [UInt8.ofNat (n / 256 ^ i % 256)] := by
      have : ((n / 256 ^ i : Nat) : Int) % 256 = ((n / 256 ^ i % 256 : Nat) : Int) := by omega
      rw [this]
      rfl
    have e4 : ∀ q : Nat, q < 18446744073709551616 → IntKind.u64.wrap (Int.tdiv (q : Int) 256) = ((q / 256 : Nat) : Int) := by
      intro q hq
      rw [Int.tdiv_eq_ediv_of_nonneg (by omega), u64w (by omega) (by omega)]
      omega
    have e2 : IntKind.u64.wrap (Int.tdiv ((n / 256 ^ i : Nat) : Int) 256) = ((n / 256 ^ (i + 1) : Nat) : Int) := by
      rw [e4 _ (by omega), Nat.pow_succ, ← Nat.div_div_eq_div_mul]
    refine Ev.ifp (by omega) (Ev.bindc rfl ?_)
    rw [e1, e2, e3]
    refine Ev.ifp (by rw [ba_size, ba_size, be_len]; simp; omega) ?_
    rw [ba_app, List.singleton_append, ← be_cons]
    exact bytes_l0 n w hw hn d (i + 1) (by omega)
theorem bytes_f (n : Int) (w : Nat) (h8 : w ≤ 8) (h0 : 0 ≤ n) (hn : n.toNat < 18446744073709551616) : Ev (fun k => cambiumref01_Bytes.f k (IntKind.u64.wrap n) (w : Int)) (ba (be w n.toNat)) := by
  unfold cambiumref01_Bytes.f
  rw [u64w h0 (by omega)]
  have h := bytes_l0 n.toNat w h8 hn w 0 (by omega)
  rw [Nat.pow_zero, Nat.div_one, show ((n.toNat : Nat) : Int) = n by omega] at h
  exact h
theorem rnum_l0 (a : ByteArray) (w : Nat) (hw : w ≤ 8) (hl : w ≤ a.data.toList.length) : ∀ d i : Nat, w = i + d →
    Ev (fun k => cambiumref01_TakeNumber.l0 k a (w : Int) (num (a.data.toList.take i) : Int) (i : Int)) ((num (a.data.toList.take w) : Int), ba (a.data.toList.drop w), 0)
  | 0, i, hi => by
    refine Ev.step (fun k => by rw [cambiumref01_TakeNumber.l0]) ?_
    have hz := size_len a
    obtain rfl : w = i := by omega
    refine Ev.ifn (by omega) (Ev.ifp (by omega) (Ev.ifp (by omega) (Ev.const ?_)))
    rw [Int.toNat_natCast, ext_end]
  | d + 1, i, hi => by
    refine Ev.step (fun k => by rw [cambiumref01_TakeNumber.l0]) ?_
    have hz := size_len a
    have hlt : i < a.data.toList.length := by omega
    have e3 : wrap64 ((i : Int) + 1) = ((i + 1 : Nat) : Int) := by rw [w64 (by omega) (by omega)]; omega
    have hn := num_lt i (a.data.toList.take i) (by rw [List.length_take]; omega)
    have hp : 256 ^ i ≤ 256 ^ 7 := Nat.pow_le_pow_right (by decide) (by omega)
    have p7 : 256 ^ 7 = 72057594037927936 := rfl
    have hb := (a.data.toList[i]).toNat_lt
    refine Ev.ifp (by omega) (Ev.ifp (by omega) (Ev.ifp (by omega) ?_))
    have e4 : ∀ x b : Nat, x < 72057594037927936 → b < 256 → IntKind.u64.wrap (IntKind.u64.wrap ((x : Int) * 256) + IntKind.u64.wrap (b : Int)) = (x : Int) * 256 + b := by
      intro x b hx hb
      rw [u64w (x := (x : Int) * 256) (by omega) (by omega), u64w (x := (b : Int)) (by omega) (by omega), u64w (by omega) (by omega)]
    rw [bt_get a i hlt, e4 _ _ (by omega) (by omega), e3]
    have ih := rnum_l0 a w hw hl d (i + 1) (by omega)
    rw [take_num_snoc _ _ hlt] at ih
    refine Ev.congr (fun k => ?_) ih
    congr 1
theorem rnum_f (a : ByteArray) (w : Nat) (h1 : 1 ≤ w) (h8 : w ≤ 8) : Ev (fun k => cambiumref01_TakeNumber.f k a (w : Int)) (ba3 (takeS w a.data.toList)) := by
  unfold cambiumref01_TakeNumber.f
  have hz := size_len a
  refine Ev.ifn (by omega) ?_
  rw [show decide ((w : Int) > 8) = false by simp; omega]
  refine Ev.step (fun k => by rw [cambiumref01_TakeNumber.j0]) ?_
  refine Ev.ifn (by decide) ?_
  by_cases h : a.data.toList.length < w
  · refine Ev.ifp (by omega) (Ev.const ?_)
    unfold ba3 takeS
    rw [if_pos h, if_pos h, drop_nil_of h]
    rfl
  · refine Ev.ifn (by omega) ?_
    refine Ev.val (rnum_l0 a w h8 (by omega) w 0 (by omega)) ?_
    unfold ba3 takeS
    rw [if_neg h, if_neg h]
end Go.Proofs.YtpnmajblhgnkoaaGreat.Z
end

section
namespace Go.Proofs.YtpnmajblhgnkoaaGreat.Z
attribute [local go_sem] max2_int min2_int max_two min_two max_three min_three max_four min_four   -- for this text's walks alone
def cambiumref12_letter.f (a0 : Int) : Option (ByteArray) := if a0 = 1 then (some (⟨#[105]⟩ : ByteArray)) else (if a0 = 2 then (some (⟨#[100]⟩ : ByteArray)) else (if a0 = 3 then (some (⟨#[99]⟩ : ByteArray)) else (if a0 = 4 then (some (⟨#[120]⟩ : ByteArray)) else (some (⟨#[]⟩ : ByteArray)))))
set_option maxHeartbeats 64000000 in
set_option maxRecDepth 100000 in
theorem cambiumref12_letter.calls (a0 : Int) (r : ByteArray) (w : World) (h : cambiumref12_letter.f a0 = some r) :
  Calls Tryz.prog 45 #[.int .u8 a0] w fun e w' => e = .returned (.string r) ∧ Drawn0 w w' := by
 have H : (if a0 = 1 then (some (⟨#[105]⟩ : ByteArray)) else (if a0 = 2 then (some (⟨#[100]⟩ : ByteArray)) else (if a0 = 3 then (some (⟨#[99]⟩ : ByteArray)) else (if a0 = 4 then (some (⟨#[120]⟩ : ByteArray)) else (some (⟨#[]⟩ : ByteArray)))))) = some r := h
 clear h
 refine Or.elim (Classical.em (a0 = 1)) (fun c2 => ?p1_) (fun c2 => ?n1_)
 case' p1_ =>
  rw [if_pos c2] at H
  have c2b0 : (a0 == 1) = true := beq_iff_eq.mpr c2
  have c2b1 : (a0 != 1) = false := bne_eq_false_iff_eq.mpr c2
  clear c2
  obtain rfl := Option.some.inj H
  refine ?z1_
 case' n1_ =>
  rw [if_neg c2] at H
  have c2b0 : (a0 == 1) = false := beq_eq_false_iff_ne.mpr c2
  have c2b1 : (a0 != 1) = true := bne_iff_ne.mpr c2
  refine Or.elim (Classical.em (a0 = 2)) (fun c3 => ?p2_) (fun c3 => ?n2_)
  case' p2_ =>
   rw [if_pos c3] at H
   have c3b0 : (a0 == 2) = true := beq_iff_eq.mpr c3
   have c3b1 : (a0 != 2) = false := bne_eq_false_iff_eq.mpr c3
   clear c3
   obtain rfl := Option.some.inj H
   refine ?z2_
  case' n2_ =>
   rw [if_neg c3] at H
   have c3b0 : (a0 == 2) = false := beq_eq_false_iff_ne.mpr c3
   have c3b1 : (a0 != 2) = true := bne_iff_ne.mpr c3
   refine Or.elim (Classical.em (a0 = 3)) (fun c4 => ?p3_) (fun c4 => ?n3_)
   case' p3_ =>
    rw [if_pos c4] at H
    have c4b0 : (a0 == 3) = true := beq_iff_eq.mpr c4
    have c4b1 : (a0 != 3) = false := bne_eq_false_iff_eq.mpr c4
    clear c4
    obtain rfl := Option.some.inj H
    refine ?z3_
   case' n3_ =>
    rw [if_neg c4] at H
    have c4b0 : (a0 == 3) = false := beq_eq_false_iff_ne.mpr c4
    have c4b1 : (a0 != 3) = true := bne_iff_ne.mpr c4
    refine Or.elim (Classical.em (a0 = 4)) (fun c5 => ?p4_) (fun c5 => ?n4_)
    case' p4_ =>
     rw [if_pos c5] at H
     have c5b0 : (a0 == 4) = true := beq_iff_eq.mpr c5
     have c5b1 : (a0 != 4) = false := bne_eq_false_iff_eq.mpr c5
     clear c5
     obtain rfl := Option.some.inj H
     refine ?z4_
    case' n4_ =>
     rw [if_neg c5] at H
     have c5b0 : (a0 == 4) = false := beq_eq_false_iff_ne.mpr c5
     have c5b1 : (a0 != 4) = true := bne_iff_ne.mpr c5
     obtain rfl := Option.some.inj H
     refine ?z5_
 case p1_ | p2_ | p3_ | p4_ | n4_ =>
  go_enter Tryz.func45, Tryz.ntmps45
  go_wp2
  go_ret
  exact ⟨by first | rfl | (simp; done) | (simp [*]; done), by repeat (first | exact Drawn0.refl _ | apply Drawn0.step)⟩
mutual
def cambiumref12_right.j0 : Nat → Bool → Int → Int → ByteArray → Int → Option (Bool)
 | 0, _, _, _, _, _ => none
 | k + 1, x3, x207000, x207001, x207002, x207003 => (cambiumref12_letter.f x207000).bind fun t207 => (if t207.toList = ([] : List UInt8) then (cambiumref12_right.j1 k true x207000 x207001 x207002 x207003) else (if x207001 = 0 then (cambiumref12_right.j1 k true x207000 x207001 x207002 x207003) else (if x3 = true then ((cambiumref11_Name.f k x207002).bind fun t208 => (if t208 = true then (cambiumref12_right.j1 k false x207000 x207001 x207002 x207003) else (cambiumref12_right.j1 k true x207000 x207001 x207002 x207003))) else (cambiumref12_right.j1 k (x207002.toList != ([] : List UInt8)) x207000 x207001 x207002 x207003))))
def cambiumref12_right.j1 : Nat → Bool → Int → Int → ByteArray → Int → Option (Bool)
 | 0, _, _, _, _, _ => none
 | k + 1, x38, x207000, x207001, x207002, x207003 => if x38 = true then (some false) else (if x207000 = 3 then (some (decide (x207003 < 512))) else (some (x207003 == 0)))
end
def cambiumref12_right.f (k : Nat) (a0_0 : Int) (a0_1 : Int) (a0_2 : ByteArray) (a0_3 : Int) : Option (Bool) := if a0_0 = 2 then (cambiumref12_right.j0 k true a0_0 a0_1 a0_2 a0_3) else (cambiumref12_right.j0 k (a0_0 == 4) a0_0 a0_1 a0_2 a0_3)
theorem cambiumref12_right.mono_l : ∀ k, (∀ y0 y1 y2 y3 y4, LeO (cambiumref12_right.j0 k y0 y1 y2 y3 y4) (cambiumref12_right.j0 (k + 1) y0 y1 y2 y3 y4)) ∧ (∀ y0 y1 y2 y3 y4, LeO (cambiumref12_right.j1 k y0 y1 y2 y3 y4) (cambiumref12_right.j1 (k + 1) y0 y1 y2 y3 y4))
 | 0 => by
  refine ⟨?_, ?_⟩ <;> (intros; intro r h; simp [cambiumref12_right.j0, cambiumref12_right.j1] at h)
 | k + 1 => by
  obtain ⟨ih0, ih1⟩ := cambiumref12_right.mono_l k
  refine ⟨?_, ?_⟩ <;> (intros; (first | unfold cambiumref12_right.j0 | unfold cambiumref12_right.j1); repeat' (first | (with_reducible first | exact ih0 _ _ _ _ _ | exact ih1 _ _ _ _ _ | exact cambiumref11_Name.mono _ _ | exact LeO.refl _ | exact LeO.none _ | refine LeO.ite ?_ ?_ | refine LeO.bind ?_ (fun _ => ?_))))
theorem cambiumref12_right.mono : ∀ a0 a1 a2 a3 k, LeO (cambiumref12_right.f k a0 a1 a2 a3) (cambiumref12_right.f (k + 1) a0 a1 a2 a3) := by
 intro a0 a1 a2 a3 k
 obtain ⟨ih0, ih1⟩ := cambiumref12_right.mono_l k
 unfold cambiumref12_right.f
 repeat' (first | (with_reducible first | exact ih0 _ _ _ _ _ | exact ih1 _ _ _ _ _ | exact cambiumref11_Name.mono _ _ | exact LeO.refl _ | exact LeO.none _ | refine LeO.ite ?_ ?_ | refine LeO.bind ?_ (fun _ => ?_)))
set_option maxHeartbeats 64000000 in
set_option maxRecDepth 100000 in
theorem cambiumref12_right.calls (k : Nat) (a0_0 : Int) (a0_1 : Int) (a0_2 : ByteArray) (a0_3 : Int) (r : Bool) (w : World) (h : cambiumref12_right.f k a0_0 a0_1 a0_2 a0_3 = some r) :
  Calls Tryz.prog 46 #[.agg #[.int .u8 a0_0, .int .u32 a0_1, .string a0_2, .int .u32 a0_3]] w fun e w' => e = .returned (.bool r) ∧ Below w.heap.size w w' := by
 have hu59 := Tryz.underlying59
 have HB := ak_ (Below.refl w.heap.size w)
 have H : (if a0_0 = 2 then (cambiumref12_right.j0 k true a0_0 a0_1 a0_2 a0_3) else (cambiumref12_right.j0 k (a0_0 == 4) a0_0 a0_1 a0_2 a0_3)) = some r := h
 clear h
 have HC2 := ak_ H
 clear H
 go_enter Tryz.func46, Tryz.ntmps46
 go_upto_region 1 with (first | ((with_reducible refine gate_dst (N := 1) rfl ?_); refine bx_ (N := 1) (cs := #[.int .u8 a0_0, .int .u32 a0_1, .string a0_2, .int .u32 a0_3]) (t := 59) ?_; intro gb206 hg w3 hbox hb; have n0_ := ak_ (below_step bel_ hb); have n1_ := ak_ (hbox); have n2_ := ak_ ((by rw [hg]; exact (below_size bel_) : w.heap.size ≤ gb206)); have n3_ := ak_ ((by rw [hg]; exact (below_size bel_) : w.heap.size ≤ gb206)); clear HB; have HB := n0_; have BK206 := n1_; have GW206 := n2_; have GE206 := n3_; clear n0_ n1_ n2_ n3_; clear hb hbox hg))
 (try simp only [Act.put, List.setIfInBounds_toArray, List.set_cons_zero, List.set_cons_succ])
 go_cut [3] (fun v3 wc => ∃ (kq : Nat) (x3_1 : Bool), v3 = .bool x3_1 ∧ Aside0 (cambiumref12_right.j0 kq x3_1 a0_0 a0_1 a0_2 a0_3 = some r) ∧ Aside0 (kq ≤ k) ∧ Aside0 (wc.heap[gb206]? = some (.cells #[.int .u8 a0_0, .int .u32 a0_1, .string a0_2, .int .u32 a0_3] 59 (0, 0))) ∧ Aside0 (Below w.heap.size w wc))
 case first =>
  have H := HC2.out
  clear HC2
  by_cases c4 : a0_0 = 2
  ·rw [if_pos c4] at H
   have c4b0 : (a0_0 == 2) = true := beq_iff_eq.mpr c4
   have c4b1 : (a0_0 != 2) = false := bne_eq_false_iff_eq.mpr c4
   clear c4
   (first | rw [c4b0] | (simp only [i64_w, i32_w]; rw [c4b0]) | skip)
   have H' := ak_ H
   clear H
   obtain ⟨hcz5_0, hcz5_1, hcz5_2, hcz5_3⟩ := cl4_ BK206
   obtain ⟨hfz5_0, hfz5_1, hfz5_2, hfz5_3⟩ := fz4_ BK206
   go_wp2
   go_meet
   case rel => exact ⟨_, (true), (by first | rfl | (simp; done) | (simp [*]; done)), H', ⟨by first | omega | exact Nat.le_refl _⟩, ⟨bk_ BK206⟩, ⟨bel_⟩⟩
  rw [if_neg c4] at H
  have c4b0 : (a0_0 == 2) = false := beq_eq_false_iff_ne.mpr c4
  have c4b1 : (a0_0 != 2) = true := bne_iff_ne.mpr c4
  (first | rw [c4b0] | (simp only [i64_w, i32_w]; rw [c4b0]) | skip)
  have H' := ak_ H
  clear H
  obtain ⟨hcz6_0, hcz6_1, hcz6_2, hcz6_3⟩ := cl4_ BK206
  obtain ⟨hfz6_0, hfz6_1, hfz6_2, hfz6_3⟩ := fz4_ BK206
  go_wp2
  go_meet
  case rel => exact ⟨_, ((a0_0 == 4)), (by first | rfl | (simp; done) | (simp [*]; done)), H', ⟨by first | omega | exact Nat.le_refl _⟩, ⟨bk_ BK206⟩, ⟨bel_⟩⟩
 case rest =>
  clear HC2
  obtain ⟨kq, x3_1, rfl, HA, HJ1, BK206, HB⟩ := hcut
  cases kq with
  | zero => exact absurd HA.out (by simp [cambiumref12_right.j0])
  | succ kj1 =>
   have H := HA.out
   clear HA
   simp only [cambiumref12_right.j0] at H
   have HC7 := ak_ H
   clear H
   go_upto_region 2 with (fail)
   go_cut [38] (fun v38 wc => ∃ (kq : Nat) (x38_6 : Bool), v38 = .bool x38_6 ∧ Aside0 (cambiumref12_right.j1 kq x38_6 a0_0 a0_1 a0_2 a0_3 = some r) ∧ Aside0 (kq ≤ kj1) ∧ Aside0 (wc.heap[gb206]? = some (.cells #[.int .u8 a0_0, .int .u32 a0_1, .string a0_2, .int .u32 a0_3] 59 (0, 0))) ∧ Aside0 (Below w.heap.size w wc))
   case first =>
    have H := HC7.out
    clear HC7
    replace H := Option.bind_eq_some_iff.mp H
    obtain ⟨t207, A80, H⟩ := H
    try dsimp only at H
    have A8 := ak_ A80
    clear A80
    refine Or.elim (Classical.em (t207.toList = ([] : List UInt8))) (fun c9 => ?p1_) (fun c9 => ?n1_)
    case' p1_ =>
     rw [if_pos c9] at H
     have c9b0 : (t207.toList == ([] : List UInt8)) = true := beq_iff_eq.mpr c9
     have c9b1 : (t207.toList != ([] : List UInt8)) = false := bne_eq_false_iff_eq.mpr c9
     clear c9
     (first | rw [c9b0] | (simp only [i64_w, i32_w]; rw [c9b0]) | skip)
     refine ?z1_
    case' n1_ =>
     rw [if_neg c9] at H
     have c9b0 : (t207.toList == ([] : List UInt8)) = false := beq_eq_false_iff_ne.mpr c9
     have c9b1 : (t207.toList != ([] : List UInt8)) = true := bne_iff_ne.mpr c9
     (first | rw [c9b0] | (simp only [i64_w, i32_w]; rw [c9b0]) | skip)
     refine Or.elim (Classical.em (a0_1 = 0)) (fun c11 => ?p2_) (fun c11 => ?n2_)
     case' p2_ =>
      rw [if_pos c11] at H
      have c11b0 : (a0_1 == 0) = true := beq_iff_eq.mpr c11
      have c11b1 : (a0_1 != 0) = false := bne_eq_false_iff_eq.mpr c11
      clear c11
      refine ?z2_
     case' n2_ =>
      rw [if_neg c11] at H
      have c11b0 : (a0_1 == 0) = false := beq_eq_false_iff_ne.mpr c11
      have c11b1 : (a0_1 != 0) = true := bne_iff_ne.mpr c11
      refine Or.elim (Classical.em (x3_1 = true)) (fun c13 => ?p3_) (fun c13 => ?n3_)
      case' p3_ =>
       subst c13
       rw [if_pos rfl] at H
       replace H := Option.bind_eq_some_iff.mp H
       obtain ⟨t208, A140, H⟩ := H
       try dsimp only at H
       have A14 := ak_ A140
       clear A140
       refine Or.elim (Classical.em (t208 = true)) (fun c15 => ?p4_) (fun c15 => ?n4_)
       case' p4_ =>
        subst c15
        rw [if_pos rfl] at H
        refine ?z3_
       case' n4_ =>
        replace c15 := Bool.eq_false_iff.mpr c15
        subst c15
        rw [if_neg (show ¬ (false = true) by decide)] at H
        refine ?z4_
      case' n3_ =>
       replace c13 := Bool.eq_false_iff.mpr c13
       subst c13
       rw [if_neg (show ¬ (false = true) by decide)] at H
       refine ?z5_
    case p1_ | p2_ | p4_ | n4_ | n3_ =>
     have H' := ak_ H
     clear H
     obtain ⟨hcz901_0, hcz901_1, hcz901_2, hcz901_3⟩ := cl4_ BK206
     obtain ⟨hfz901_0, hfz901_1, hfz901_2, hfz901_3⟩ := fz4_ BK206
     go_wp2_with (first | ((with_reducible refine gate_callee (f := 45) rfl ?_); refine gl_ (some 14) Tryz.func45 #[.int .u8 a0_0] ?_; (with_reducible refine (cambiumref12_letter.calls a0_0 t207 _ A8.out).mono ?_); rintro e w' ⟨rfl, ⟨nd, rfl⟩⟩; refine ⟨_, rfl, ?_⟩) | (go_at_call 42; (with_reducible refine (cambiumref11_Name.calls kj1 a0_2 true _ A14.out).mono ?_); rintro e w' ⟨rfl, ⟨nd, rfl⟩⟩) | (go_at_call 42; (with_reducible refine (cambiumref11_Name.calls kj1 a0_2 false _ A14.out).mono ?_); rintro e w' ⟨rfl, ⟨nd, rfl⟩⟩))
     go_meet
     case rel => first | (exact ⟨_, (false), (by first | rfl | (simp; done) | (simp [*]; done)), H', ⟨by have := HJ1.out; first | omega | exact Nat.le_refl _⟩, ⟨bk_ BK206⟩, ⟨bel_⟩⟩) | (exact ⟨_, (true), (by first | rfl | (simp; done) | (simp [*]; done)), H', ⟨by have := HJ1.out; first | omega | exact Nat.le_refl _⟩, ⟨bk_ BK206⟩, ⟨bel_⟩⟩) | (exact ⟨_, ((a0_2.toList != ([] : List UInt8))), (by first | rfl | (simp; done) | (simp [*]; done) | (simp only [show ∀ l : List UInt8, (l != []) = !l.isEmpty from fun l => by cases l <;> rfl, Bool.not_not]; done) | (simp [show ∀ l : List UInt8, (l != []) = !l.isEmpty from fun l => by cases l <;> rfl]; done)), H', ⟨by have := HJ1.out; first | omega | exact Nat.le_refl _⟩, ⟨bk_ BK206⟩, ⟨bel_⟩⟩)
   case rest =>
    clear HC7
    obtain ⟨kq, x38_6, rfl, HA, HJ6, BK206, HB⟩ := hcut
    cases kq with
    | zero => exact absurd HA.out (by simp [cambiumref12_right.j1])
    | succ kj6 =>
     have H := HA.out
     clear HA
     simp only [cambiumref12_right.j1] at H
     refine Or.elim (Classical.em (x38_6 = true)) (fun c19 => ?p5_) (fun c19 => ?n5_)
     case' p5_ =>
      subst c19
      rw [if_pos rfl] at H
      obtain rfl := Option.some.inj H
      refine ?z6_
     case' n5_ =>
      replace c19 := Bool.eq_false_iff.mpr c19
      subst c19
      rw [if_neg (show ¬ (false = true) by decide)] at H
      refine Or.elim (Classical.em (a0_0 = 3)) (fun c20 => ?p6_) (fun c20 => ?n6_)
      case' p6_ =>
       rw [if_pos c20] at H
       have c20b0 : (a0_0 == 3) = true := beq_iff_eq.mpr c20
       have c20b1 : (a0_0 != 3) = false := bne_eq_false_iff_eq.mpr c20
       clear c20
       obtain rfl := Option.some.inj H
       obtain ⟨hcz21_0, hcz21_1, hcz21_2, hcz21_3⟩ := cl4_ BK206
       obtain ⟨hfz21_0, hfz21_1, hfz21_2, hfz21_3⟩ := fz4_ BK206
       refine ?z7_
      case' n6_ =>
       rw [if_neg c20] at H
       have c20b0 : (a0_0 == 3) = false := beq_eq_false_iff_ne.mpr c20
       have c20b1 : (a0_0 != 3) = true := bne_iff_ne.mpr c20
       obtain rfl := Option.some.inj H
       obtain ⟨hcz22_0, hcz22_1, hcz22_2, hcz22_3⟩ := cl4_ BK206
       obtain ⟨hfz22_0, hfz22_1, hfz22_2, hfz22_3⟩ := fz4_ BK206
       refine ?z8_
     case p5_ | p6_ | n6_ =>
      go_wp2
      go_ret
      exact ⟨by first | rfl | (simp [errW_none, errW_some] <;> rfl) | (simp [*, errW_none, errW_some] <;> rfl), bel_⟩
def cambiumref12_Prefix.f (k : Nat) (a0 : Int) (a1 : Int) : Option (ByteArray) := (cambiumref12_letter.f a0).bind fun t212 => (if t212.toList = ([] : List UInt8) then (some (⟨#[]⟩ : ByteArray)) else ((cambiumref12_letter.f a0).bind fun t213 => ((cambiumref01_Bytes.f k (IntKind.u64.wrap (a1)) 4).bind fun t214 => (if t213.size + t214.size ≤ 9223372036854775807 then (some (t213 ++ t214)) else (none)))))
theorem cambiumref12_Prefix.mono : ∀ a0 a1 k, LeO (cambiumref12_Prefix.f k a0 a1) (cambiumref12_Prefix.f (k + 1) a0 a1) := by
 intro a0 a1 k
 unfold cambiumref12_Prefix.f
 repeat' (first | (with_reducible first | exact cambiumref01_Bytes.mono _ _ _ | exact LeO.refl _ | exact LeO.none _ | refine LeO.ite ?_ ?_ | refine LeO.bind ?_ (fun _ => ?_)))
set_option maxHeartbeats 64000000 in
set_option maxRecDepth 100000 in
theorem cambiumref12_Prefix.calls (k : Nat) (a0 : Int) (a1 : Int) (r : ByteArray) (w : World) (h : cambiumref12_Prefix.f k a0 a1 = some r) :
  Calls Tryz.prog 53 #[.int .u8 a0, .int .u32 a1] w fun e w' => e = .returned (.string r) ∧ Below w.heap.size w w' := by
 have HB := ak_ (Below.refl w.heap.size w)
 have H : ((cambiumref12_letter.f a0).bind fun t212 => (if t212.toList = ([] : List UInt8) then (some (⟨#[]⟩ : ByteArray)) else ((cambiumref12_letter.f a0).bind fun t213 => ((cambiumref01_Bytes.f k (IntKind.u64.wrap (a1)) 4).bind fun t214 => (if t213.size + t214.size ≤ 9223372036854775807 then (some (t213 ++ t214)) else (none)))))) = some r := h
 clear h
 replace H := Option.bind_eq_some_iff.mp H
 obtain ⟨t212, A30, H⟩ := H
 try dsimp only at H
 have A3 := ak_ A30
 clear A30
 refine Or.elim (Classical.em (t212.toList = ([] : List UInt8))) (fun c4 => ?p1_) (fun c4 => ?n1_)
 case' p1_ =>
  rw [if_pos c4] at H
  have c4b0 : (t212.toList == ([] : List UInt8)) = true := beq_iff_eq.mpr c4
  have c4b1 : (t212.toList != ([] : List UInt8)) = false := bne_eq_false_iff_eq.mpr c4
  clear c4
  obtain rfl := Option.some.inj H
  refine ?z1_
 case' n1_ =>
  rw [if_neg c4] at H
  have c4b0 : (t212.toList == ([] : List UInt8)) = false := beq_eq_false_iff_ne.mpr c4
  have c4b1 : (t212.toList != ([] : List UInt8)) = true := bne_iff_ne.mpr c4
  replace H := Option.bind_eq_some_iff.mp H
  obtain ⟨t213, A50, H⟩ := H
  try dsimp only at H
  have A5 := ak_ A50
  clear A50
  replace H := Option.bind_eq_some_iff.mp H
  obtain ⟨t214, A60, H⟩ := H
  try dsimp only at H
  have A6 := ak_ A60
  clear A60
  refine Or.elim (Classical.em (t213.size + t214.size ≤ 9223372036854775807)) (fun c7 => ?p2_) (fun c7 => ?n2_)
  case' p2_ =>
   rw [if_pos c7] at H
   have c7b0 := eq_true c7
   have c7b1 : decide (t213.size + t214.size ≤ 9223372036854775807) = true := decide_eq_true c7
   try have c7b2 : (9223372036854775807 < t213.size + t214.size) = False := eq_false (Nat.not_lt.2 c7)
   obtain rfl := Option.some.inj H
   refine ?z2_
  case n2_ =>
   rw [if_neg c7] at H
   exact absurd H (by simp)
 case p1_ | n1_ =>
  go_enter Tryz.func53, Tryz.ntmps53
  go_wp2_with (first | ((with_reducible refine gate_callee (f := 45) rfl ?_); refine gl_ (some 6) Tryz.func45 #[.int .u8 a0] ?_; (with_reducible refine (cambiumref12_letter.calls a0 t212 _ A3.out).mono ?_); rintro e w' ⟨rfl, ⟨nd, rfl⟩⟩; refine ⟨_, rfl, ?_⟩) | ((with_reducible refine gate_callee (f := 45) rfl ?_); refine gl_ (some 9) Tryz.func45 #[.int .u8 a0] ?_; (with_reducible refine (cambiumref12_letter.calls a0 t213 _ A5.out).mono ?_); rintro e w' ⟨rfl, ⟨nd, rfl⟩⟩; refine ⟨_, rfl, ?_⟩) | ((with_reducible refine gate_callee (f := 54) rfl ?_); refine goesL_ (some 12) rfl rfl Tryz.func54 (by kernel_rfl) rfl #[.int .u64 (IntKind.u64.wrap (a1)), .int .i64 4] rfl (by (try simp only [List.map_toArray, List.map_cons, List.map_nil]); first | done | rfl | (rw [show IntKind.u64.wrap (a1) = (a1) from IntWalk.u64_in _ (by simp only [decide_eq_false_iff_not, decide_eq_true_eq] at *; omega)]; rfl) | (simp only [List.length_drop, List.length_take]; rfl)) ?_; (with_reducible refine (cambiumref01_Bytes.calls k (IntKind.u64.wrap (a1)) 4 t214 _ A6.out).mono ?_); rintro e w901 ⟨rfl, hb⟩; refine ⟨_, rfl, ?_⟩; replace HB := hb_ hb; (try clear hb)))
  go_ret
  exact ⟨by first | rfl | (simp [errW_none, errW_some] <;> rfl) | (simp [*, errW_none, errW_some] <;> rfl), bel_⟩
def cambiumref12_Key.f (k : Nat) (a0_0 : Int) (a0_1 : Int) (a0_2 : ByteArray) (a0_3 : Int) : Option (ByteArray × Int) := (cambiumref12_right.f k a0_0 a0_1 a0_2 a0_3).bind fun t216 => (if t216 = true then ((cambiumref12_Prefix.f k a0_0 a0_1).bind fun t217 => (if t217.size + a0_2.size ≤ 9223372036854775807 then (if a0_0 = 3 then ((cambiumref01_Bytes.f k (IntKind.u64.wrap (a0_3)) 4).bind fun t218 => (if (t217 ++ a0_2).size + t218.size ≤ 9223372036854775807 then (some ((t217 ++ a0_2) ++ t218, 0)) else (none))) else (some (t217 ++ a0_2, 0))) else (none))) else (some ((⟨#[]⟩ : ByteArray), 4)))
theorem cambiumref12_Key.mono : ∀ a0 a1 a2 a3 k, LeO (cambiumref12_Key.f k a0 a1 a2 a3) (cambiumref12_Key.f (k + 1) a0 a1 a2 a3) := by
 intro a0 a1 a2 a3 k
 unfold cambiumref12_Key.f
 repeat' (first | (with_reducible first | exact cambiumref01_Bytes.mono _ _ _ | exact cambiumref12_Prefix.mono _ _ _ | exact cambiumref12_right.mono _ _ _ _ _ | exact LeO.refl _ | exact LeO.none _ | refine LeO.ite ?_ ?_ | refine LeO.bind ?_ (fun _ => ?_)))
def cambiumref12_Key.T3 : Bool × List (List Nat × List Nat) := (true, [([], []), ([0], [0]), ([], []), ([2], [2]), ([1, 3], [1, 3]), ([], []), ([5], [5]), ([4, 6], [4, 6]), ([7, 4, 0, 1, 2, 3, 4, 5, 6, 7], [7])])
def cambiumref12_Key.B3 : List Nat := [0, 1, 0, 4, 15, 0, 32, 127, 255]
theorem cambiumref12_Key.tab3 : rtab .any (opsOf Tryz.f34 3) = cambiumref12_Key.T3 := by kernel_rfl
theorem cambiumref12_Key.bits3 : waitsOk cambiumref12_Key.T3.2 cambiumref12_Key.B3 = true := by kernel_rfl
set_option maxHeartbeats 8000000 in
set_option maxRecDepth 100000 in
theorem cambiumref12_Key.calls (k : Nat) (a0_0 : Int) (a0_1 : Int) (a0_2 : ByteArray) (a0_3 : Int) (r1 : ByteArray) (r2 : Int) (w : World) (h : cambiumref12_Key.f k a0_0 a0_1 a0_2 a0_3 = some (r1, r2)) :
  Calls Tryz.prog 34 #[.agg #[.int .u8 a0_0, .int .u32 a0_1, .string a0_2, .int .u32 a0_3]] w fun e w' => e = .returned (.tuple #[.string r1, .int .i64 r2]) ∧ Below w.heap.size w w' := by
 have hu59 := Tryz.underlying59
 have HB := ak_ (Below.refl w.heap.size w)
 have H : ((cambiumref12_right.f k a0_0 a0_1 a0_2 a0_3).bind fun t216 => (if t216 = true then ((cambiumref12_Prefix.f k a0_0 a0_1).bind fun t217 => (if t217.size + a0_2.size ≤ 9223372036854775807 then (if a0_0 = 3 then ((cambiumref01_Bytes.f k (IntKind.u64.wrap (a0_3)) 4).bind fun t218 => (if (t217 ++ a0_2).size + t218.size ≤ 9223372036854775807 then (some ((t217 ++ a0_2) ++ t218, 0)) else (none))) else (some (t217 ++ a0_2, 0))) else (none))) else (some ((⟨#[]⟩ : ByteArray), 4)))) = some (r1, r2) := h
 clear h
 replace H := Option.bind_eq_some_iff.mp H
 obtain ⟨t216, A20, H⟩ := H
 try dsimp only at H
 have A2 := ak_ A20
 clear A20
 by_cases c3 : t216 = true
 ·subst c3
  rw [if_pos rfl] at H
  replace H := Option.bind_eq_some_iff.mp H
  obtain ⟨t217, A40, H⟩ := H
  try dsimp only at H
  have A4 := ak_ A40
  clear A40
  by_cases c5 : t217.size + a0_2.size ≤ 9223372036854775807
  ·rw [if_pos c5] at H
   have c5b0 := eq_true c5
   have c5b1 : decide (t217.size + a0_2.size ≤ 9223372036854775807) = true := decide_eq_true c5
   try have c5b2 : (9223372036854775807 < t217.size + a0_2.size) = False := eq_false (Nat.not_lt.2 c5)
   by_cases c6 : a0_0 = 3
   ·rw [if_pos c6] at H
    have c6b0 : (a0_0 == 3) = true := beq_iff_eq.mpr c6
    have c6b1 : (a0_0 != 3) = false := bne_eq_false_iff_eq.mpr c6
    clear c6
    replace H := Option.bind_eq_some_iff.mp H
    obtain ⟨t218, A70, H⟩ := H
    try dsimp only at H
    have A7 := ak_ A70
    clear A70
    by_cases c8 : (t217 ++ a0_2).size + t218.size ≤ 9223372036854775807
    ·rw [if_pos c8] at H
     have c8b0 := eq_true c8
     have c8b1 : decide ((t217 ++ a0_2).size + t218.size ≤ 9223372036854775807) = true := decide_eq_true c8
     have c8b1x := c8b1
     (try simp only [ByteArray.size_append, Int.natCast_add] at c8b1x)
     try have c8b2 : (9223372036854775807 < (t217 ++ a0_2).size + t218.size) = False := eq_false (Nat.not_lt.2 c8)
     try have c8b2x := c8b2
     (try simp only [ByteArray.size_append, Int.natCast_add] at c8b2x)
     simp only [Option.some.injEq, Prod.mk.injEq] at H
     obtain ⟨rfl, rfl⟩ := H
     go_enter Tryz.func34, Tryz.ntmps34
     try go_wp2_with (first | ((with_reducible refine gate_dst (N := 1) rfl ?_); refine bx_ (N := 1) (cs := #[.int .u8 a0_0, .int .u32 a0_1, .string a0_2, .int .u32 a0_3]) (t := 59) ?_; intro gb215 hg w9 hbox hb; have BK215 := ak_ (hbox); have GW215 := ge_ hg; have GE215 := ge_ hg; replace HB := hb_ hb; clear hb hbox hg; obtain ⟨hcz10_0, hcz10_1, hcz10_2, hcz10_3⟩ := cl4_ BK215; obtain ⟨hfz10_0, hfz10_1, hfz10_2, hfz10_3⟩ := fz4_ BK215) | ((with_reducible refine gate_callee (f := 46) rfl ?_); refine gl_ (some 6) Tryz.func46 #[.agg #[.int .u8 a0_0, .int .u32 a0_1, .string a0_2, .int .u32 a0_3]] ?_; (with_reducible refine (cambiumref12_right.calls k a0_0 a0_1 a0_2 a0_3 true _ A2.out).mono ?_); rintro e w11 ⟨rfl, hb⟩; refine ⟨_, rfl, ?_⟩; replace BK215 := kb_ BK215 hb; replace HB := hb_ hb; (try clear hb)))
     replace BK215 := ak_ (blk_drew BK215.out)
     replace HB := ak_ (below_drew1 HB.out)
     refine start_ (n := 9) (S := fun w' => w'.cell? ⟨gb215, 0, none⟩ = some (.int .u8 a0_0) ∧ w'.cell? ⟨gb215, 1, none⟩ = some (.int .u32 a0_1) ∧ w'.cell? ⟨gb215, 2, none⟩ = some (.string a0_2) ∧ w'.cell? ⟨gb215, 3, none⟩ = some (.int .u32 a0_3)) (ds := []) #[false, false, false, false, false, false, false, false, false] (by kernel_rfl) rfl rfl hc_ (fun hHeld => ?_); refine with_tabW cambiumref12_Key.tab3 cambiumref12_Key.bits3 (fun HT_ HW_ => ?_)
     generalize w11.drew = w12 at BK215 HB hHeld ⊢
     refine pu_ 0 8 ?_
     refine pu_ 2 10 ?_
     refine pu_ 5 13 ?_
     refine tk4_ 1 9 ?_
     refine tk4_ 3 11 ?_
     refine tk4_ 6 14 ?_
     refine on_ 4 12 (fun K hK => ?_)
     refine goes_ Tryz.func53 (by kernel_rfl) rfl #[.int .u8 a0_0, .int .u32 a0_1] (by rfl) rfl rfl (by (try simp only [List.map_toArray, List.map_cons, List.map_nil]); first | done | rfl | (simp only [List.length_drop, List.length_take]; rfl)) ?_
     with_reducible refine (cambiumref12_Prefix.calls k a0_0 a0_1 t217 _ A4.out).mono ?_
     rintro e w13 ⟨rfl, hb⟩
     refine ⟨_, rfl, ?_⟩
     replace BK215 := kb_ BK215 hb
     replace HB := hb_ hb
     (try clear hb)
     (try clear hb2)
     (try clear hk)
     (try clear hi)
     refine hK.out _ _ hc_ (fun hHeld => ?_)
     clear hK K
     refine nm_ 12 ?_
     refine pu_ 7 15 ?_
     refine pu_ 8 4 ?_
     refine done_ (done_of HT_.out (by kernel_rfl)) ?_
     obtain ⟨hcz14_0, hcz14_1, hcz14_2, hcz14_3⟩ := cl4_ BK215
     obtain ⟨hfz14_0, hfz14_1, hfz14_2, hfz14_3⟩ := fz4_ BK215
     try go_wp2_with (first | ((with_reducible refine gate_callee (f := 54) rfl ?_); refine goesL_ (some 23) rfl rfl Tryz.func54 (by kernel_rfl) rfl #[.int .u64 (IntKind.u64.wrap (a0_3)), .int .i64 4] rfl (by (try simp only [List.map_toArray, List.map_cons, List.map_nil]); first | done | rfl | (rw [show IntKind.u64.wrap (a0_3) = (a0_3) from IntWalk.u64_in _ (by simp only [decide_eq_false_iff_not, decide_eq_true_eq] at *; omega)]; rfl) | (simp only [List.length_drop, List.length_take]; rfl)) ?_; (with_reducible refine (cambiumref01_Bytes.calls k (IntKind.u64.wrap (a0_3)) 4 t218 _ A7.out).mono ?_); rintro e w15 ⟨rfl, hb⟩; refine ⟨_, rfl, ?_⟩; replace BK215 := kb_ BK215 hb; replace HB := hb_ hb; (try clear hb)))
     go_ret2
     exact ⟨by first | rfl | (simp [errW_none, errW_some] <;> rfl) | (simp [*, errW_none, errW_some] <;> rfl), bel_⟩
    rw [if_neg c8] at H
    exact absurd H (by simp)
   rw [if_neg c6] at H
   have c6b0 : (a0_0 == 3) = false := beq_eq_false_iff_ne.mpr c6
   have c6b1 : (a0_0 != 3) = true := bne_iff_ne.mpr c6
   simp only [Option.some.injEq, Prod.mk.injEq] at H
   obtain ⟨rfl, rfl⟩ := H
   go_enter Tryz.func34, Tryz.ntmps34
   try go_wp2_with (first | ((with_reducible refine gate_dst (N := 1) rfl ?_); refine bx_ (N := 1) (cs := #[.int .u8 a0_0, .int .u32 a0_1, .string a0_2, .int .u32 a0_3]) (t := 59) ?_; intro gb215 hg w16 hbox hb; have BK215 := ak_ (hbox); have GW215 := ge_ hg; have GE215 := ge_ hg; replace HB := hb_ hb; clear hb hbox hg; obtain ⟨hcz17_0, hcz17_1, hcz17_2, hcz17_3⟩ := cl4_ BK215; obtain ⟨hfz17_0, hfz17_1, hfz17_2, hfz17_3⟩ := fz4_ BK215) | ((with_reducible refine gate_callee (f := 46) rfl ?_); refine gl_ (some 6) Tryz.func46 #[.agg #[.int .u8 a0_0, .int .u32 a0_1, .string a0_2, .int .u32 a0_3]] ?_; (with_reducible refine (cambiumref12_right.calls k a0_0 a0_1 a0_2 a0_3 true _ A2.out).mono ?_); rintro e w18 ⟨rfl, hb⟩; refine ⟨_, rfl, ?_⟩; replace BK215 := kb_ BK215 hb; replace HB := hb_ hb; (try clear hb)))
   replace BK215 := ak_ (blk_drew BK215.out)
   replace HB := ak_ (below_drew1 HB.out)
   refine start_ (n := 9) (S := fun w' => w'.cell? ⟨gb215, 0, none⟩ = some (.int .u8 a0_0) ∧ w'.cell? ⟨gb215, 1, none⟩ = some (.int .u32 a0_1) ∧ w'.cell? ⟨gb215, 2, none⟩ = some (.string a0_2) ∧ w'.cell? ⟨gb215, 3, none⟩ = some (.int .u32 a0_3)) (ds := []) #[false, false, false, false, false, false, false, false, false] (by kernel_rfl) rfl rfl hc_ (fun hHeld => ?_); refine with_tabW cambiumref12_Key.tab3 cambiumref12_Key.bits3 (fun HT_ HW_ => ?_)
   generalize w18.drew = w19 at BK215 HB hHeld ⊢
   refine pu_ 0 8 ?_
   refine pu_ 2 10 ?_
   refine pu_ 5 13 ?_
   refine tk4_ 1 9 ?_
   refine tk4_ 3 11 ?_
   refine tk4_ 6 14 ?_
   refine on_ 4 12 (fun K hK => ?_)
   refine goes_ Tryz.func53 (by kernel_rfl) rfl #[.int .u8 a0_0, .int .u32 a0_1] (by rfl) rfl rfl (by (try simp only [List.map_toArray, List.map_cons, List.map_nil]); first | done | rfl | (simp only [List.length_drop, List.length_take]; rfl)) ?_
   with_reducible refine (cambiumref12_Prefix.calls k a0_0 a0_1 t217 _ A4.out).mono ?_
   rintro e w20 ⟨rfl, hb⟩
   refine ⟨_, rfl, ?_⟩
   replace BK215 := kb_ BK215 hb
   replace HB := hb_ hb
   (try clear hb)
   (try clear hb2)
   (try clear hk)
   (try clear hi)
   refine hK.out _ _ hc_ (fun hHeld => ?_)
   clear hK K
   refine nm_ 12 ?_
   refine pu_ 7 15 ?_
   refine pu_ 8 4 ?_
   refine done_ (done_of HT_.out (by kernel_rfl)) ?_
   obtain ⟨hcz21_0, hcz21_1, hcz21_2, hcz21_3⟩ := cl4_ BK215
   obtain ⟨hfz21_0, hfz21_1, hfz21_2, hfz21_3⟩ := fz4_ BK215
   try go_wp2
   go_ret2
   exact ⟨by first | rfl | (simp [errW_none, errW_some] <;> rfl) | (simp [*, errW_none, errW_some] <;> rfl), bel_⟩
  rw [if_neg c5] at H
  exact absurd H (by simp)
 replace c3 := Bool.eq_false_iff.mpr c3
 subst c3
 rw [if_neg (show ¬ (false = true) by decide)] at H
 simp only [Option.some.injEq, Prod.mk.injEq] at H
 obtain ⟨rfl, rfl⟩ := H
 go_enter Tryz.func34, Tryz.ntmps34
 go_wp2_with (first | ((with_reducible refine gate_dst (N := 1) rfl ?_); refine bx_ (N := 1) (cs := #[.int .u8 a0_0, .int .u32 a0_1, .string a0_2, .int .u32 a0_3]) (t := 59) ?_; intro gb215 hg w22 hbox hb; have BK215 := ak_ (hbox); have GW215 := ge_ hg; have GE215 := ge_ hg; replace HB := hb_ hb; clear hb hbox hg; obtain ⟨hcz23_0, hcz23_1, hcz23_2, hcz23_3⟩ := cl4_ BK215; obtain ⟨hfz23_0, hfz23_1, hfz23_2, hfz23_3⟩ := fz4_ BK215) | ((with_reducible refine gate_callee (f := 46) rfl ?_); refine gl_ (some 6) Tryz.func46 #[.agg #[.int .u8 a0_0, .int .u32 a0_1, .string a0_2, .int .u32 a0_3]] ?_; (with_reducible refine (cambiumref12_right.calls k a0_0 a0_1 a0_2 a0_3 false _ A2.out).mono ?_); rintro e w24 ⟨rfl, hb⟩; refine ⟨_, rfl, ?_⟩; replace BK215 := kb_ BK215 hb; replace HB := hb_ hb; (try clear hb)))
 go_ret2
 exact ⟨by first | rfl | (simp [errW_none, errW_some] <;> rfl) | (simp [*, errW_none, errW_some] <;> rfl), bel_⟩
mutual
def cambiumref12_Parse.l0 : Nat → ByteArray → Int → ByteArray → List Int → Int → Int → Option (Int × Int × ByteArray × Int × Int)
 | 0, _, _, _, _, _, _ => none
 | k + 1, x0, x4, x5, x24, x25, x26 => if x26 < x25 then (if 0 ≤ x26 then (if x26 < (x24.length : Int) then ((cambiumref12_letter.f (rd x24 x26)).bind fun t259 => (if 1 ≤ (x0.size : Int) then (if t259.toList = (x0.extract 0 1).toList then (if (rd x24 x26) = 3 then ((cambiumref01_TakeNumber.f k x5 4).bind fun bt261 => (if bt261.2.2 = 0 then (cambiumref12_Parse.j1 k x0 x4 x5 bt261.1 x24 x25 x26 (bt261.2.1.toList != ([] : List UInt8)) (rd x24 x26) ((x4) % 4294967296) x5 0) else (cambiumref12_Parse.j1 k x0 x4 x5 bt261.1 x24 x25 x26 true (rd x24 x26) ((x4) % 4294967296) x5 0))) else ((cambiumref12_right.f k (rd x24 x26) ((x4) % 4294967296) x5 0).bind fun t265 => (if t265 = true then (some (rd x24 x26, (x4) % 4294967296, x5, 0, 0)) else (cambiumref12_Parse.l0 k x0 x4 x5 x24 x25 (wrap64 (x26 + 1)))))) else (cambiumref12_Parse.l0 k x0 x4 x5 x24 x25 (wrap64 (x26 + 1)))) else (none))) else (none)) else (none)) else (some (0, 0, (⟨#[]⟩ : ByteArray), 0, 4))
def cambiumref12_Parse.j1 : Nat → ByteArray → Int → ByteArray → Int → List Int → Int → Int → Bool → Int → Int → ByteArray → Int → Option (Int × Int × ByteArray × Int × Int)
 | 0, _, _, _, _, _, _, _, _, _, _, _, _ => none
 | k + 1, x0, x4, x5, x10, x24, x25, x26, x53, x261000, x261001, x261002, x261003 => if x53 = true then (some (0, 0, (⟨#[]⟩ : ByteArray), 0, 4)) else ((cambiumref12_right.f k x261000 x261001 (⟨#[]⟩ : ByteArray) ((x10) % 4294967296)).bind fun t264 => (if t264 = true then (some (x261000, x261001, (⟨#[]⟩ : ByteArray), (x10) % 4294967296, 0)) else (cambiumref12_Parse.l0 k x0 x4 x5 x24 x25 (wrap64 (x26 + 1)))))
end
def cambiumref12_Parse.f (k : Nat) (a0 : ByteArray) : Option (Int × Int × ByteArray × Int × Int) := if (a0.size : Int) < 5 then (some (0, 0, (⟨#[]⟩ : ByteArray), 0, 4)) else (if 1 ≤ (a0.size : Int) then ((cambiumref01_TakeNumber.f k (a0.extract 1 a0.size) 4).bind fun bt252 => ((some (([1, 2, 3, 4] : List Int) : List Int)).bind fun y255 => (cambiumref12_Parse.l0 k a0 bt252.1 bt252.2.1 y255 (y255.length : Int) 0))) else (none))
theorem cambiumref12_Parse.mono_l : ∀ k, (∀ y0 y1 y2 y3 y4 y5, LeO (cambiumref12_Parse.l0 k y0 y1 y2 y3 y4 y5) (cambiumref12_Parse.l0 (k + 1) y0 y1 y2 y3 y4 y5)) ∧ (∀ y0 y1 y2 y3 y4 y5 y6 y7 y8 y9 y10 y11, LeO (cambiumref12_Parse.j1 k y0 y1 y2 y3 y4 y5 y6 y7 y8 y9 y10 y11) (cambiumref12_Parse.j1 (k + 1) y0 y1 y2 y3 y4 y5 y6 y7 y8 y9 y10 y11))
 | 0 => by
  refine ⟨?_, ?_⟩ <;> (intros; intro r h; simp [cambiumref12_Parse.l0, cambiumref12_Parse.j1] at h)
 | k + 1 => by
  obtain ⟨ih0, ih1⟩ := cambiumref12_Parse.mono_l k
  refine ⟨?_, ?_⟩ <;> (intros; (first | unfold cambiumref12_Parse.l0 | unfold cambiumref12_Parse.j1); repeat' (first | (with_reducible first | exact ih0 _ _ _ _ _ _ | exact ih1 _ _ _ _ _ _ _ _ _ _ _ _ | exact cambiumref01_TakeNumber.mono _ _ _ | exact cambiumref12_right.mono _ _ _ _ _ | exact LeO.refl _ | exact LeO.none _ | refine LeO.ite ?_ ?_ | refine LeO.bind ?_ (fun _ => ?_))))
theorem cambiumref12_Parse.mono : ∀ a0 k, LeO (cambiumref12_Parse.f k a0) (cambiumref12_Parse.f (k + 1) a0) := by
 intro a0 k
 obtain ⟨ih0, ih1⟩ := cambiumref12_Parse.mono_l k
 unfold cambiumref12_Parse.f
 repeat' (first | (with_reducible first | exact ih0 _ _ _ _ _ _ | exact ih1 _ _ _ _ _ _ _ _ _ _ _ _ | exact cambiumref01_TakeNumber.mono _ _ _ | exact cambiumref12_right.mono _ _ _ _ _ | exact LeO.refl _ | exact LeO.none _ | refine LeO.ite ?_ ?_ | refine LeO.bind ?_ (fun _ => ?_)))
set_option maxHeartbeats 64000000 in
set_option maxRecDepth 100000 in
theorem cambiumref12_Parse.calls (k : Nat) (a0 : ByteArray) (r1 : Int) (r2 : Int) (r3 : ByteArray) (r4 : Int) (r5 : Int) (w : World) (h : cambiumref12_Parse.f k a0 = some (r1, r2, r3, r4, r5)) :
  Calls Tryz.prog 26 #[.string a0] w fun e w' => e = .returned (.tuple #[.agg #[.int .u8 r1, .int .u32 r2, .string r3, .int .u32 r4], .int .i64 r5]) ∧ Below w.heap.size w w' := by
 have hu59 := Tryz.underlying59
 have HB := ak_ (Below.refl w.heap.size w)
 have H : (if (a0.size : Int) < 5 then (some (0, 0, (⟨#[]⟩ : ByteArray), 0, 4)) else (if 1 ≤ (a0.size : Int) then ((cambiumref01_TakeNumber.f k (a0.extract 1 a0.size) 4).bind fun bt252 => ((some (([1, 2, 3, 4] : List Int) : List Int)).bind fun y255 => (cambiumref12_Parse.l0 k a0 bt252.1 bt252.2.1 y255 (y255.length : Int) 0))) else (none))) = some (r1, r2, r3, r4, r5) := h
 clear h
 by_cases c2 : (a0.size : Int) < 5
 ·rw [if_pos c2] at H
  have c2b0 : decide ((a0.size : Int) < 5) = true := decide_eq_true c2
  have c2b1 : decide (a0.size < 5) = true := decide_eq_true (by omega)
  clear c2
  simp only [Option.some.injEq, Prod.mk.injEq] at H
  obtain ⟨rfl, rfl, rfl, rfl, rfl⟩ := H
  go_enter Tryz.func26, Tryz.ntmps26
  go_wp2_with (first | ((with_reducible refine gate_dst (N := 2) rfl ?_); refine bx_ (N := 2) (cs := #[.int .u8 0, .int .u32 0, .string (⟨#[]⟩ : ByteArray), .int .u32 0]) (t := 59) ?_; intro gb251 hg w3 hbox hb; have BK251 := ak_ (hbox); have GW251 := ge_ hg; have GE251 := ge_ hg; replace HB := hb_ hb; clear hb hbox hg; obtain ⟨hcz4_0, hcz4_1, hcz4_2, hcz4_3⟩ := cl4_ BK251; obtain ⟨hfz4_0, hfz4_1, hfz4_2, hfz4_3⟩ := fz4_ BK251))
  refine bodyPost_ret (results_ct rfl _ _ gb251 59 #[.int .u8 0, .int .u32 0, .string (⟨#[]⟩ : ByteArray), .int .u32 0] (0, 0) _ rfl (bs_) Tryz.underlying59 rfl (by kernel_rfl)) rfl ?_
  exact ⟨by first | rfl | (simp [errW_none, errW_some] <;> rfl) | (simp [*, errW_none, errW_some] <;> rfl), bel_⟩
 rw [if_neg c2] at H
 have c2b0 : decide ((a0.size : Int) < 5) = false := decide_eq_false c2
 have c2b1 : decide (a0.size < 5) = false := decide_eq_false (by omega)
 clear c2
 by_cases c5 : 1 ≤ (a0.size : Int)
 ·rw [if_pos c5] at H
  have c5b0 := eq_true c5
  have c5b1 : decide (1 ≤ (a0.size : Int)) = true := decide_eq_true c5
  clear c5
  replace H := Option.bind_eq_some_iff.mp H
  obtain ⟨⟨t252, t253, t254⟩, A60, H⟩ := H
  try dsimp only at H
  have A6 := ak_ A60
  clear A60
  obtain ⟨y255, hy255⟩ : ∃ y_ : List Int, y_ = (([1, 2, 3, 4] : List Int)) := ⟨_, rfl⟩
  replace H : (cambiumref12_Parse.l0 k a0 t252 t253 y255 (y255.length : Int) 0) = some (r1, r2, r3, r4, r5) := by first | (rw [hy255]; with_reducible exact H) | (have H2_ := (Option.bind_some _ _).symm.trans H; rw [hy255]; with_reducible exact H2_) | (have H2_ := (Option.bind_some _ _).symm.trans H; with_reducible exact H2_) | with_reducible exact H | (rw [hy255]; exact H) | exact H
  have Ny255 := ak_ hy255
  clear hy255
  have H' := ak_ H
  clear H
  go_enter Tryz.func26, Tryz.ntmps26
  go_wp2_with (first | ((with_reducible refine gate_dst (N := 2) rfl ?_); refine bx_ (N := 2) (cs := #[.int .u8 0, .int .u32 0, .string (⟨#[]⟩ : ByteArray), .int .u32 0]) (t := 59) ?_; intro gb251 hg w7 hbox hb; have BK251 := ak_ (hbox); have GW251 := ge_ hg; have GE251 := ge_ hg; replace HB := hb_ hb; clear hb hbox hg) | (go_at_call 44; (with_reducible refine (cambiumref01_TakeNumber.calls k (a0.extract 1 a0.size) 4 t252 t253 t254 _ A6.out).mono ?_); rintro e w' ⟨rfl, ⟨nd, rfl⟩⟩; (try first | exact ⟨rfl, _, World.drewN_drewN _ _ _⟩ | exact ⟨rfl, _, Eq.trans (World.drewN_drewN _ _ _) (congrArg (World.drewN _) (Nat.add_assoc _ _ _))⟩)) | ((with_reducible refine gate_dst (N := 24) rfl ?_); refine Kd.R_lit (Kd.int .u8) _ 57 ?hg (N := 24) ?hd (xs := ([1, 2, 3, 4] : List Int)) (inner := [.int .u8 1, .int .u8 2, .int .u8 3, .int .u8 4]) (ok := fun _ => True) (okp := fun _ => True) ?hr ?hp (fun _ hk => hk) trivial (Below.refl _ _) (Nat.le_refl _) (by simp) ?_; (case hd => rfl); (case hg => rfl); (case hr => first | (go_simp; done) | (go_simp; rfl)); (case hp => exact (Reps.one (show Kd.M (Kd.int .u8) _ _ _ 1 [.int .u8 1] from rfl) (Reps.one (show Kd.M (Kd.int .u8) _ _ _ 2 [.int .u8 2] from rfl) (Reps.one (show Kd.M (Kd.int .u8) _ _ _ 3 [.int .u8 3] from rfl) (Reps.one (show Kd.M (Kd.int .u8) _ _ _ 4 [.int .u8 4] from rfl) (Reps.none _ _)))))); intro v256 w8 ho9 hb hg_ hnew_; clear hg_ hnew_; (first | rw [← Ny255.out] at ho9 | (simp only [Int.reduceToNat] at ho9; rw [← Ny255.out] at ho9)); have HO257 := rl_ ho9; replace BK251 := kb_ BK251 hb; replace HB := hb_ hb; clear hb ho9; obtain ⟨Ao10, co10, eo10⟩ := Kd.R_slice HO257.out; subst eo10))
  go_loopg [26] k (fun kq v26 w' => ∃ (x26_1 : Int) (x252000_1 : Int) (x252001_1 : Int) (x252002_1 : ByteArray) (x252003_1 : Int), v26 = .int .i64 x26_1 ∧ Aside0 (cambiumref12_Parse.l0 kq a0 t252 t253 y255 (y255.length : Int) x26_1 = some (r1, r2, r3, r4, r5)) ∧ Aside0 (kq ≤ k) ∧ Aside0 (Kd.R (Kd.int .u8) 57 w' w.heap.size (fun _ => True) (.slice Ao10 y255.length co10) y255) ∧ Aside0 (w'.heap[gb251]? = some (.cells #[.int .u8 x252000_1, .int .u32 x252001_1, .string x252002_1, .int .u32 x252003_1] 59 (0, 0))) ∧ Aside0 (Below w.heap.size w w'))
  case atStart => exact ⟨(0), (0), (0), ((⟨#[]⟩ : ByteArray)), (0), (by first | rfl | (simp; done) | (simp [*]; done)), H', ⟨Nat.le_refl _⟩, ⟨ra_ HO257⟩, ⟨bk_ BK251⟩, ⟨bel_⟩⟩
  case round =>
   clear H'
   obtain ⟨x26_1, x252000_1, x252001_1, x252002_1, x252003_1, rfl, HA, HK1, HO_24, BK251, HB⟩ := hrel
   cases gk with
   | zero => exact absurd HA.out (by simp [cambiumref12_Parse.l0])
   | succ k1 =>
    have H := HA.out
    clear HA
    simp only [cambiumref12_Parse.l0] at H
    refine Or.elim (Classical.em (x26_1 < (y255.length : Int))) (fun c11 => ?p1_) (fun c11 => ?n1_)
    case' p1_ =>
     rw [if_pos c11] at H
     have c11b0 : decide (x26_1 < (y255.length : Int)) = true := decide_eq_true c11
     clear c11
     refine Or.elim (Classical.em (0 ≤ x26_1)) (fun c12 => ?p2_) (fun c12 => ?n2_)
     case' p2_ =>
      rw [if_pos c12] at H
      have c12b0 : decide (0 ≤ x26_1) = true := decide_eq_true c12
      clear c12
      refine Or.elim (Classical.em (x26_1 < (y255.length : Int))) (fun c13 => ?p3_) (fun c13 => ?n3_)
      case' p3_ =>
       rw [if_pos c13] at H
       have c13b0 : decide (x26_1 < (y255.length : Int)) = true := decide_eq_true c13
       clear c13
       replace H := Option.bind_eq_some_iff.mp H
       obtain ⟨t259, A140, H⟩ := H
       try dsimp only at H
       have A14 := ak_ A140
       clear A140
       refine Or.elim (Classical.em (1 ≤ (a0.size : Int))) (fun c15 => ?p4_) (fun c15 => ?n4_)
       case' p4_ =>
        rw [if_pos c15] at H
        have c15b0 := eq_true c15
        have c15b1 : decide (1 ≤ (a0.size : Int)) = true := decide_eq_true c15
        clear c15
        refine Or.elim (Classical.em (t259.toList = (a0.extract 0 1).toList)) (fun c16 => ?p5_) (fun c16 => ?n5_)
        case' p5_ =>
         rw [if_pos c16] at H
         have c16b0 : (t259.toList == (a0.extract 0 1).toList) = true := beq_iff_eq.mpr c16
         have c16b1 : (t259.toList != (a0.extract 0 1).toList) = false := bne_eq_false_iff_eq.mpr c16
         clear c16
         refine Or.elim (Classical.em ((rd y255 x26_1) = 3)) (fun c17 => ?p6_) (fun c17 => ?n6_)
         case p6_ =>
          rw [if_pos c17] at H
          have c17b0 : ((rd y255 x26_1) == 3) = true := beq_iff_eq.mpr c17
          have c17b1 : ((rd y255 x26_1) != 3) = false := bne_eq_false_iff_eq.mpr c17
          clear c17
          replace H := Option.bind_eq_some_iff.mp H
          obtain ⟨⟨t261, t262, t263⟩, A180, H⟩ := H
          try dsimp only at H
          have A18 := ak_ A180
          clear A180
          have HC19 := ak_ H
          clear H
          have p258 : 0 ≤ (x26_1 : Int) := of_decide_eq_true (by first | (with_reducible assumption) | assumption)
          have q258 : x26_1 < (y255.length : Int) := of_decide_eq_true (by first | (with_reducible assumption) | assumption)
          obtain ⟨ad258, e258, hx258_0⟩ := Kd.at_int (Kd.R_reads' HO_24.out).2.2 x26_1 p258 q258
          cases e258
          replace p258 := eq_true p258
          replace q258 := eq_true q258
          go_upto_region 11 with (first | (go_at_call 45; (with_reducible refine (cambiumref12_letter.calls (rd y255 x26_1) t259 _ A14.out).mono ?_); rintro e w' ⟨rfl, ⟨nd, rfl⟩⟩; (try first | exact ⟨rfl, _, World.drewN_drewN _ _ _⟩ | exact ⟨rfl, _, Eq.trans (World.drewN_drewN _ _ _) (congrArg (World.drewN _) (Nat.add_assoc _ _ _))⟩)) | ((with_reducible refine gate_dst (N := 9) rfl ?_); refine bx_ (N := 9) (cs := #[.int .u8 0, .int .u32 0, .string (⟨#[]⟩ : ByteArray), .int .u32 0]) (t := 59) ?_; intro gb260 hg w20 hbox hb; have n0_ := ak_ (Kd.R_below (ra_ HO_24) hb); have n1_ := ak_ (blk_below (bk_ BK251) hb); have n2_ := ak_ (below_step bel_ hb); have n3_ := ak_ (hbox); have n4_ := ak_ ((by rw [hg]; exact (below_size bel_) : w.heap.size ≤ gb260)); have n5_ := ak_ ((by rw [hg]; exact (below_size bel_) : w.heap.size ≤ gb260)); have n6_ := ak_ ((by rw [hg]; exact Nat.ne_of_lt (blk_lt (bk_ BK251)) : gb251 ≠ gb260)); have n7_ := ak_ ((by rw [hg]; exact Nat.ne_of_gt (blk_lt (bk_ BK251)) : gb260 ≠ gb251)); clear HO_24; clear BK251; clear HB; have HO_24 := n0_; have BK251 := n1_; have HB := n2_; have BK260 := n3_; have GW260 := n4_; have GE260 := n5_; have NB251_260 := n6_; have NB260_251 := n7_; clear n0_ n1_ n2_ n3_ n4_ n5_ n6_ n7_; clear hb hbox hg; have hnb21 := NB260_251.out; have hnc21 := NB251_260.out; have hcz22_0 : w20.cell? ⟨gb260, 0, none⟩ = some (.int .u8 0) := (blk_cell BK260.out 0).trans rfl; have hcz22_1 : w20.cell? ⟨gb260, 1, none⟩ = some (.int .u32 0) := (blk_cell BK260.out 1).trans rfl; have hcz22_2 : w20.cell? ⟨gb260, 2, none⟩ = some (.string (⟨#[]⟩ : ByteArray)) := (blk_cell BK260.out 2).trans rfl; have hcz22_3 : w20.cell? ⟨gb260, 3, none⟩ = some (.int .u32 0) := (blk_cell BK260.out 3).trans rfl; have hfz22_0 := blk_frozen BK260.out 0; have hfz22_1 := blk_frozen BK260.out 1; have hfz22_2 := blk_frozen BK260.out 2; have hfz22_3 := blk_frozen BK260.out 3) | (go_at_call 44; (with_reducible refine (cambiumref01_TakeNumber.calls k1 t253 4 t261 t262 t263 _ A18.out).mono ?_); rintro e w' ⟨rfl, ⟨nd, rfl⟩⟩; (try first | exact ⟨rfl, _, World.drewN_drewN _ _ _⟩ | exact ⟨rfl, _, Eq.trans (World.drewN_drewN _ _ _) (congrArg (World.drewN _) (Nat.add_assoc _ _ _))⟩)))
          repeat (go_quiet (first | (go_at_call 45; (with_reducible refine (cambiumref12_letter.calls (rd y255 x26_1) t259 _ A14.out).mono ?_); rintro e w' ⟨rfl, ⟨nd, rfl⟩⟩; (try first | exact ⟨rfl, _, World.drewN_drewN _ _ _⟩ | exact ⟨rfl, _, Eq.trans (World.drewN_drewN _ _ _) (congrArg (World.drewN _) (Nat.add_assoc _ _ _))⟩)) | ((with_reducible refine gate_dst (N := 9) rfl ?_); refine bx_ (N := 9) (cs := #[.int .u8 0, .int .u32 0, .string (⟨#[]⟩ : ByteArray), .int .u32 0]) (t := 59) ?_; intro gb260 hg w20 hbox hb; have n0_ := ak_ (Kd.R_below (ra_ HO_24) hb); have n1_ := ak_ (blk_below (bk_ BK251) hb); have n2_ := ak_ (below_step bel_ hb); have n3_ := ak_ (hbox); have n4_ := ak_ ((by rw [hg]; exact (below_size bel_) : w.heap.size ≤ gb260)); have n5_ := ak_ ((by rw [hg]; exact (below_size bel_) : w.heap.size ≤ gb260)); have n6_ := ak_ ((by rw [hg]; exact Nat.ne_of_lt (blk_lt (bk_ BK251)) : gb251 ≠ gb260)); have n7_ := ak_ ((by rw [hg]; exact Nat.ne_of_gt (blk_lt (bk_ BK251)) : gb260 ≠ gb251)); clear HO_24; clear BK251; clear HB; have HO_24 := n0_; have BK251 := n1_; have HB := n2_; have BK260 := n3_; have GW260 := n4_; have GE260 := n5_; have NB251_260 := n6_; have NB260_251 := n7_; clear n0_ n1_ n2_ n3_ n4_ n5_ n6_ n7_; clear hb hbox hg; have hnb21 := NB260_251.out; have hnc21 := NB251_260.out; have hcz22_0 : w20.cell? ⟨gb260, 0, none⟩ = some (.int .u8 0) := (blk_cell BK260.out 0).trans rfl; have hcz22_1 : w20.cell? ⟨gb260, 1, none⟩ = some (.int .u32 0) := (blk_cell BK260.out 1).trans rfl; have hcz22_2 : w20.cell? ⟨gb260, 2, none⟩ = some (.string (⟨#[]⟩ : ByteArray)) := (blk_cell BK260.out 2).trans rfl; have hcz22_3 : w20.cell? ⟨gb260, 3, none⟩ = some (.int .u32 0) := (blk_cell BK260.out 3).trans rfl; have hfz22_0 := blk_frozen BK260.out 0; have hfz22_1 := blk_frozen BK260.out 1; have hfz22_2 := blk_frozen BK260.out 2; have hfz22_3 := blk_frozen BK260.out 3) | (go_at_call 44; (with_reducible refine (cambiumref01_TakeNumber.calls k1 t253 4 t261 t262 t263 _ A18.out).mono ?_); rintro e w' ⟨rfl, ⟨nd, rfl⟩⟩; (try first | exact ⟨rfl, _, World.drewN_drewN _ _ _⟩ | exact ⟨rfl, _, Eq.trans (World.drewN_drewN _ _ _) (congrArg (World.drewN _) (Nat.add_assoc _ _ _))⟩))); go_upto_region 11 with (first | (go_at_call 45; (with_reducible refine (cambiumref12_letter.calls (rd y255 x26_1) t259 _ A14.out).mono ?_); rintro e w' ⟨rfl, ⟨nd, rfl⟩⟩; (try first | exact ⟨rfl, _, World.drewN_drewN _ _ _⟩ | exact ⟨rfl, _, Eq.trans (World.drewN_drewN _ _ _) (congrArg (World.drewN _) (Nat.add_assoc _ _ _))⟩)) | ((with_reducible refine gate_dst (N := 9) rfl ?_); refine bx_ (N := 9) (cs := #[.int .u8 0, .int .u32 0, .string (⟨#[]⟩ : ByteArray), .int .u32 0]) (t := 59) ?_; intro gb260 hg w20 hbox hb; have n0_ := ak_ (Kd.R_below (ra_ HO_24) hb); have n1_ := ak_ (blk_below (bk_ BK251) hb); have n2_ := ak_ (below_step bel_ hb); have n3_ := ak_ (hbox); have n4_ := ak_ ((by rw [hg]; exact (below_size bel_) : w.heap.size ≤ gb260)); have n5_ := ak_ ((by rw [hg]; exact (below_size bel_) : w.heap.size ≤ gb260)); have n6_ := ak_ ((by rw [hg]; exact Nat.ne_of_lt (blk_lt (bk_ BK251)) : gb251 ≠ gb260)); have n7_ := ak_ ((by rw [hg]; exact Nat.ne_of_gt (blk_lt (bk_ BK251)) : gb260 ≠ gb251)); clear HO_24; clear BK251; clear HB; have HO_24 := n0_; have BK251 := n1_; have HB := n2_; have BK260 := n3_; have GW260 := n4_; have GE260 := n5_; have NB251_260 := n6_; have NB260_251 := n7_; clear n0_ n1_ n2_ n3_ n4_ n5_ n6_ n7_; clear hb hbox hg; have hnb21 := NB260_251.out; have hnc21 := NB251_260.out; have hcz22_0 : w20.cell? ⟨gb260, 0, none⟩ = some (.int .u8 0) := (blk_cell BK260.out 0).trans rfl; have hcz22_1 : w20.cell? ⟨gb260, 1, none⟩ = some (.int .u32 0) := (blk_cell BK260.out 1).trans rfl; have hcz22_2 : w20.cell? ⟨gb260, 2, none⟩ = some (.string (⟨#[]⟩ : ByteArray)) := (blk_cell BK260.out 2).trans rfl; have hcz22_3 : w20.cell? ⟨gb260, 3, none⟩ = some (.int .u32 0) := (blk_cell BK260.out 3).trans rfl; have hfz22_0 := blk_frozen BK260.out 0; have hfz22_1 := blk_frozen BK260.out 1; have hfz22_2 := blk_frozen BK260.out 2; have hfz22_3 := blk_frozen BK260.out 3) | (go_at_call 44; (with_reducible refine (cambiumref01_TakeNumber.calls k1 t253 4 t261 t262 t263 _ A18.out).mono ?_); rintro e w' ⟨rfl, ⟨nd, rfl⟩⟩; (try first | exact ⟨rfl, _, World.drewN_drewN _ _ _⟩ | exact ⟨rfl, _, Eq.trans (World.drewN_drewN _ _ _) (congrArg (World.drewN _) (Nat.add_assoc _ _ _))⟩))))
          (try simp only [Act.put, List.setIfInBounds_toArray, List.set_cons_zero, List.set_cons_succ])
          go_cut [53] (fun v53 wc => ∃ (kq : Nat) (x53_18 : Bool), v53 = .bool x53_18 ∧ Aside0 (cambiumref12_Parse.j1 kq a0 t252 t253 t261 y255 (y255.length : Int) x26_1 x53_18 (rd y255 x26_1) ((t252) % 4294967296) t253 0 = some (r1, r2, r3, r4, r5)) ∧ Aside0 (kq ≤ k1) ∧ Aside0 (Kd.R (Kd.int .u8) 57 wc w.heap.size (fun _ => True) (.slice (some ad258) y255.length co10) y255) ∧ Aside0 (wc.heap[gb251]? = some (.cells #[.int .u8 x252000_1, .int .u32 x252001_1, .string x252002_1, .int .u32 x252003_1] 59 (0, 0))) ∧ Aside0 (wc.heap[gb260]? = some (.cells #[.int .u8 (rd y255 x26_1), .int .u32 ((t252) % 4294967296), .string t253, .int .u32 0] 59 (0, 0))) ∧ Aside0 (Below w.heap.size w wc))
          case first =>
           have H := HC19.out
           clear HC19
           by_cases c23 : t263 = 0
           ·rw [if_pos c23] at H
            have c23b0 : (t263 == 0) = true := beq_iff_eq.mpr c23
            have c23b1 : (t263 != 0) = false := bne_eq_false_iff_eq.mpr c23
            clear c23
            (first | rw [c23b0] | (simp only [i64_w, i32_w]; rw [c23b0]) | skip)
            have H' := ak_ H
            clear H
            go_wp2
            go_meet
            case rel => exact ⟨_, ((t262.toList != ([] : List UInt8))), (by first | rfl | (simp; done) | (simp [*]; done) | (simp only [show ∀ l : List UInt8, (l != []) = !l.isEmpty from fun l => by cases l <;> rfl, Bool.not_not]; done) | (simp [show ∀ l : List UInt8, (l != []) = !l.isEmpty from fun l => by cases l <;> rfl]; done)), H', ⟨by have := HK1.out; first | omega | exact Nat.le_refl _⟩, ⟨by (with_reducible repeat (first | apply Kd.R_alloc | apply Kd.R_drewN | apply Kd.R_drew)); exact Kd.R_mono (Kd.R_far (p := ⟨gb260, 3, none⟩) (Kd.R_far (p := ⟨gb260, 2, none⟩) (Kd.R_far (p := ⟨gb260, 1, none⟩) (Kd.R_far (p := ⟨gb260, 0, none⟩) (Kd.R_types HO_24.out BK260.out (by decide)) (fun _ hk => hk.2) (.int .u8 (rd y255 x26_1))) (fun _ hk => hk.2) (.int .u32 ((t252) % 4294967296))) (fun _ hk => hk.2) (.string t253)) (fun _ hk => hk.2) (.int .u32 0)) (fun _ hk => trivial)⟩, ⟨bs_⟩, ⟨bs_⟩, ⟨bel_⟩⟩
           rw [if_neg c23] at H
           have c23b0 : (t263 == 0) = false := beq_eq_false_iff_ne.mpr c23
           have c23b1 : (t263 != 0) = true := bne_iff_ne.mpr c23
           (first | rw [c23b0] | (simp only [i64_w, i32_w]; rw [c23b0]) | skip)
           have H' := ak_ H
           clear H
           go_wp2
           go_meet
           case rel => exact ⟨_, (true), (by first | rfl | (simp; done) | (simp [*]; done)), H', ⟨by have := HK1.out; first | omega | exact Nat.le_refl _⟩, ⟨by (with_reducible repeat (first | apply Kd.R_alloc | apply Kd.R_drewN | apply Kd.R_drew)); exact Kd.R_mono (Kd.R_far (p := ⟨gb260, 3, none⟩) (Kd.R_far (p := ⟨gb260, 2, none⟩) (Kd.R_far (p := ⟨gb260, 1, none⟩) (Kd.R_far (p := ⟨gb260, 0, none⟩) (Kd.R_types HO_24.out BK260.out (by decide)) (fun _ hk => hk.2) (.int .u8 (rd y255 x26_1))) (fun _ hk => hk.2) (.int .u32 ((t252) % 4294967296))) (fun _ hk => hk.2) (.string t253)) (fun _ hk => hk.2) (.int .u32 0)) (fun _ hk => trivial)⟩, ⟨bs_⟩, ⟨bs_⟩, ⟨bel_⟩⟩
          case rest =>
           clear HC19
           obtain ⟨kq, x53_18, rfl, HA, HJ18, HO_24, BK251, BK260, HB⟩ := hcut
           cases kq with
           | zero => exact absurd HA.out (by simp [cambiumref12_Parse.j1])
           | succ kj18 =>
            have H := HA.out
            clear HA
            simp only [cambiumref12_Parse.j1] at H
            by_cases c24 : x53_18 = true
            ·subst c24
             rw [if_pos rfl] at H
             simp only [Option.some.injEq, Prod.mk.injEq] at H
             obtain ⟨rfl, rfl, rfl, rfl, rfl⟩ := H
             have hnb25 := NB251_260.out
             have hnc25 := NB260_251.out
             obtain ⟨hcz26_0, hcz26_1, hcz26_2, hcz26_3⟩ := cl4_ BK251
             obtain ⟨hfz26_0, hfz26_1, hfz26_2, hfz26_3⟩ := fz4_ BK251
             go_wp2
             refine bodyPost_ret (results_ct rfl _ _ gb251 59 #[.int .u8 0, .int .u32 0, .string (⟨#[]⟩ : ByteArray), .int .u32 0] (0, 0) _ rfl (bs_) Tryz.underlying59 rfl (by kernel_rfl)) rfl ?_
             exact ⟨by first | rfl | (simp [errW_none, errW_some] <;> rfl) | (simp [*, errW_none, errW_some] <;> rfl), bel_⟩
            replace c24 := Bool.eq_false_iff.mpr c24
            subst c24
            rw [if_neg (show ¬ (false = true) by decide)] at H
            replace H := Option.bind_eq_some_iff.mp H
            obtain ⟨t264, A270, H⟩ := H
            try dsimp only at H
            have A27 := ak_ A270
            clear A270
            by_cases c28 : t264 = true
            ·subst c28
             rw [if_pos rfl] at H
             simp only [Option.some.injEq, Prod.mk.injEq] at H
             obtain ⟨rfl, rfl, rfl, rfl, rfl⟩ := H
             have hnb29 := NB260_251.out
             have hnc29 := NB251_260.out
             obtain ⟨hcz30_0, hcz30_1, hcz30_2, hcz30_3⟩ := cl4_ BK260
             obtain ⟨hfz30_0, hfz30_1, hfz30_2, hfz30_3⟩ := fz4_ BK260
             go_wp2_with (first | (go_at_call 46; (with_reducible refine (cambiumref12_right.calls kj18 (rd y255 x26_1) ((t252) % 4294967296) (⟨#[]⟩ : ByteArray) ((t261) % 4294967296) true _ A27.out).mono ?_); rintro e w31 ⟨rfl, hb⟩; replace HO_24 := ak_ (Kd.R_below (rw_ HO_24) hb); replace BK251 := ak_ (blk_below (g := gb251) (o := .cells #[.int .u8 x252000_1, .int .u32 x252001_1, .string x252002_1, .int .u32 x252003_1] 59 (0, 0)) (bs_) hb); replace HB := hb_ hb; replace BK260 := ak_ (blk_below (g := gb260) (o := .cells #[.int .u8 (rd y255 x26_1), .int .u32 ((t252) % 4294967296), .string (⟨#[]⟩ : ByteArray), .int .u32 ((t261) % 4294967296)] 59 (0, 0)) (bs_) hb); (try clear hb); obtain ⟨hcz32_0, hcz32_1, hcz32_2, hcz32_3⟩ := cl4_ BK260; obtain ⟨hfz32_0, hfz32_1, hfz32_2, hfz32_3⟩ := fz4_ BK260; obtain ⟨hcz33_0, hcz33_1, hcz33_2, hcz33_3⟩ := cl4_ BK251; obtain ⟨hfz33_0, hfz33_1, hfz33_2, hfz33_3⟩ := fz4_ BK251))
             refine bodyPost_ret (results_ct rfl _ _ gb251 59 #[.int .u8 (rd y255 x26_1), .int .u32 ((t252) % 4294967296), .string (⟨#[]⟩ : ByteArray), .int .u32 ((t261) % 4294967296)] (0, 0) _ rfl (bs_) Tryz.underlying59 rfl (by kernel_rfl)) rfl ?_
             exact ⟨by first | rfl | (simp [errW_none, errW_some] <;> rfl) | (simp [*, errW_none, errW_some] <;> rfl), bel_⟩
            replace c28 := Bool.eq_false_iff.mpr c28
            subst c28
            rw [if_neg (show ¬ (false = true) by decide)] at H
            have H' := ak_ H
            clear H
            have hnb34 := NB260_251.out
            have hnc34 := NB251_260.out
            obtain ⟨hcz35_0, hcz35_1, hcz35_2, hcz35_3⟩ := cl4_ BK260
            obtain ⟨hfz35_0, hfz35_1, hfz35_2, hfz35_3⟩ := fz4_ BK260
            go_wp2_with (first | (go_at_call 46; (with_reducible refine (cambiumref12_right.calls kj18 (rd y255 x26_1) ((t252) % 4294967296) (⟨#[]⟩ : ByteArray) ((t261) % 4294967296) false _ A27.out).mono ?_); rintro e w36 ⟨rfl, hb⟩; replace HO_24 := ak_ (Kd.R_below (rw_ HO_24) hb); replace BK251 := ak_ (blk_below (g := gb251) (o := .cells #[.int .u8 x252000_1, .int .u32 x252001_1, .string x252002_1, .int .u32 x252003_1] 59 (0, 0)) (bs_) hb); replace HB := hb_ hb; replace BK260 := ak_ (blk_below (g := gb260) (o := .cells #[.int .u8 (rd y255 x26_1), .int .u32 ((t252) % 4294967296), .string (⟨#[]⟩ : ByteArray), .int .u32 ((t261) % 4294967296)] 59 (0, 0)) (bs_) hb); (try clear hb)))
            go_roundg kj18
            case measure => have := HK1.out; have := HJ18.out; omega
            case rel => exact ⟨(wrap64 (x26_1 + 1)), (x252000_1), (x252001_1), (x252002_1), (x252003_1), (by first | rfl | (simp; done) | (simp [*]; done)), H', ⟨by have := HK1.out; have := HJ18.out; omega⟩, ⟨ra_ HO_24⟩, ⟨bk_ BK251⟩, ⟨bel_⟩⟩
         case' n6_ =>
          rw [if_neg c17] at H
          have c17b0 : ((rd y255 x26_1) == 3) = false := beq_eq_false_iff_ne.mpr c17
          have c17b1 : ((rd y255 x26_1) != 3) = true := bne_iff_ne.mpr c17
          replace H := Option.bind_eq_some_iff.mp H
          obtain ⟨t265, A370, H⟩ := H
          try dsimp only at H
          have A37 := ak_ A370
          clear A370
          refine Or.elim (Classical.em (t265 = true)) (fun c38 => ?p7_) (fun c38 => ?n7_)
          case p7_ =>
           subst c38
           rw [if_pos rfl] at H
           simp only [Option.some.injEq, Prod.mk.injEq] at H
           obtain ⟨rfl, rfl, rfl, rfl, rfl⟩ := H
           have p258 : 0 ≤ (x26_1 : Int) := of_decide_eq_true (by first | (with_reducible assumption) | assumption)
           have q258 : x26_1 < (y255.length : Int) := of_decide_eq_true (by first | (with_reducible assumption) | assumption)
           obtain ⟨ad258, e258, hx258_0⟩ := Kd.at_int (Kd.R_reads' HO_24.out).2.2 x26_1 p258 q258
           cases e258
           replace p258 := eq_true p258
           replace q258 := eq_true q258
           go_wp2_with (first | (go_at_call 45; (with_reducible refine (cambiumref12_letter.calls (rd y255 x26_1) t259 _ A14.out).mono ?_); rintro e w' ⟨rfl, ⟨nd, rfl⟩⟩; (try first | exact ⟨rfl, _, World.drewN_drewN _ _ _⟩ | exact ⟨rfl, _, Eq.trans (World.drewN_drewN _ _ _) (congrArg (World.drewN _) (Nat.add_assoc _ _ _))⟩)) | ((with_reducible refine gate_dst (N := 9) rfl ?_); refine bx_ (N := 9) (cs := #[.int .u8 0, .int .u32 0, .string (⟨#[]⟩ : ByteArray), .int .u32 0]) (t := 59) ?_; intro gb260 hg w39 hbox hb; have BK260 := ak_ (hbox); have GW260 := ge_ hg; have GE260 := ge_ hg; have NB251_260 := nl_ BK251 hg; have NB260_251 := ng_ BK251 hg; replace HO_24 := rb_ HO_24 hb; replace BK251 := kb_ BK251 hb; replace HB := hb_ hb; clear hb hbox hg; have hnb40 := NB260_251.out; have hnc40 := NB251_260.out; obtain ⟨hcz41_0, hcz41_1, hcz41_2, hcz41_3⟩ := cl4_ BK260; obtain ⟨hfz41_0, hfz41_1, hfz41_2, hfz41_3⟩ := fz4_ BK260) | (go_at_call 46; (with_reducible refine (cambiumref12_right.calls k1 (rd y255 x26_1) ((t252) % 4294967296) t253 0 true _ A37.out).mono ?_); rintro e w42 ⟨rfl, hb⟩; replace HO_24 := ak_ (Kd.R_below (rw_ HO_24) hb); replace BK251 := ak_ (blk_below (g := gb251) (o := .cells #[.int .u8 x252000_1, .int .u32 x252001_1, .string x252002_1, .int .u32 x252003_1] 59 (0, 0)) (bs_) hb); replace HB := hb_ hb; replace BK260 := ak_ (blk_below (g := gb260) (o := .cells #[.int .u8 (rd y255 x26_1), .int .u32 ((t252) % 4294967296), .string t253, .int .u32 0] 59 (0, 0)) (bs_) hb); (try clear hb); obtain ⟨hcz43_0, hcz43_1, hcz43_2, hcz43_3⟩ := cl4_ BK260; obtain ⟨hfz43_0, hfz43_1, hfz43_2, hfz43_3⟩ := fz4_ BK260; obtain ⟨hcz44_0, hcz44_1, hcz44_2, hcz44_3⟩ := cl4_ BK251; obtain ⟨hfz44_0, hfz44_1, hfz44_2, hfz44_3⟩ := fz4_ BK251))
           repeat (go_quiet (first | (go_at_call 45; (with_reducible refine (cambiumref12_letter.calls (rd y255 x26_1) t259 _ A14.out).mono ?_); rintro e w' ⟨rfl, ⟨nd, rfl⟩⟩; (try first | exact ⟨rfl, _, World.drewN_drewN _ _ _⟩ | exact ⟨rfl, _, Eq.trans (World.drewN_drewN _ _ _) (congrArg (World.drewN _) (Nat.add_assoc _ _ _))⟩)) | ((with_reducible refine gate_dst (N := 9) rfl ?_); refine bx_ (N := 9) (cs := #[.int .u8 0, .int .u32 0, .string (⟨#[]⟩ : ByteArray), .int .u32 0]) (t := 59) ?_; intro gb260 hg w39 hbox hb; have n0_ := ak_ (Kd.R_below (ra_ HO_24) hb); have n1_ := ak_ (blk_below (bk_ BK251) hb); have n2_ := ak_ (below_step bel_ hb); have n3_ := ak_ (hbox); have n4_ := ak_ ((by rw [hg]; exact (below_size bel_) : w.heap.size ≤ gb260)); have n5_ := ak_ ((by rw [hg]; exact (below_size bel_) : w.heap.size ≤ gb260)); have n6_ := ak_ ((by rw [hg]; exact Nat.ne_of_lt (blk_lt (bk_ BK251)) : gb251 ≠ gb260)); have n7_ := ak_ ((by rw [hg]; exact Nat.ne_of_gt (blk_lt (bk_ BK251)) : gb260 ≠ gb251)); clear HO_24; clear BK251; clear HB; have HO_24 := n0_; have BK251 := n1_; have HB := n2_; have BK260 := n3_; have GW260 := n4_; have GE260 := n5_; have NB251_260 := n6_; have NB260_251 := n7_; clear n0_ n1_ n2_ n3_ n4_ n5_ n6_ n7_; clear hb hbox hg; have hnb40 := NB260_251.out; have hnc40 := NB251_260.out; have hcz41_0 : w39.cell? ⟨gb260, 0, none⟩ = some (.int .u8 0) := (blk_cell BK260.out 0).trans rfl; have hcz41_1 : w39.cell? ⟨gb260, 1, none⟩ = some (.int .u32 0) := (blk_cell BK260.out 1).trans rfl; have hcz41_2 : w39.cell? ⟨gb260, 2, none⟩ = some (.string (⟨#[]⟩ : ByteArray)) := (blk_cell BK260.out 2).trans rfl; have hcz41_3 : w39.cell? ⟨gb260, 3, none⟩ = some (.int .u32 0) := (blk_cell BK260.out 3).trans rfl; have hfz41_0 := blk_frozen BK260.out 0; have hfz41_1 := blk_frozen BK260.out 1; have hfz41_2 := blk_frozen BK260.out 2; have hfz41_3 := blk_frozen BK260.out 3) | (go_at_call 46; (with_reducible refine (cambiumref12_right.calls k1 (rd y255 x26_1) ((t252) % 4294967296) t253 0 true _ A37.out).mono ?_); rintro e w42 ⟨rfl, hb⟩; have n0_ := ak_ (Kd.R_below (rw_ HO_24) hb); have n1_ := ak_ (blk_below (g := gb251) (o := .cells #[.int .u8 x252000_1, .int .u32 x252001_1, .string x252002_1, .int .u32 x252003_1] 59 (0, 0)) (bs_) hb); have n2_ := ak_ (blk_below (g := gb260) (o := .cells #[.int .u8 (rd y255 x26_1), .int .u32 ((t252) % 4294967296), .string t253, .int .u32 0] 59 (0, 0)) (bs_) hb); have n3_ := ak_ (below_step bel_ hb); clear HO_24; clear BK251; clear BK260; clear HB; have HO_24 := n0_; have BK251 := n1_; have BK260 := n2_; have HB := n3_; clear n0_ n1_ n2_ n3_; (try clear hb); have hcz43_0 : w42.cell? ⟨gb260, 0, none⟩ = some (.int .u8 (rd y255 x26_1)) := (blk_cell BK260.out 0).trans rfl; have hcz43_1 : w42.cell? ⟨gb260, 1, none⟩ = some (.int .u32 ((t252) % 4294967296)) := (blk_cell BK260.out 1).trans rfl; have hcz43_2 : w42.cell? ⟨gb260, 2, none⟩ = some (.string t253) := (blk_cell BK260.out 2).trans rfl; have hcz43_3 : w42.cell? ⟨gb260, 3, none⟩ = some (.int .u32 0) := (blk_cell BK260.out 3).trans rfl; have hfz43_0 := blk_frozen BK260.out 0; have hfz43_1 := blk_frozen BK260.out 1; have hfz43_2 := blk_frozen BK260.out 2; have hfz43_3 := blk_frozen BK260.out 3; have hcz44_0 : w42.cell? ⟨gb251, 0, none⟩ = some (.int .u8 x252000_1) := (blk_cell BK251.out 0).trans rfl; have hcz44_1 : w42.cell? ⟨gb251, 1, none⟩ = some (.int .u32 x252001_1) := (blk_cell BK251.out 1).trans rfl; have hcz44_2 : w42.cell? ⟨gb251, 2, none⟩ = some (.string x252002_1) := (blk_cell BK251.out 2).trans rfl; have hcz44_3 : w42.cell? ⟨gb251, 3, none⟩ = some (.int .u32 x252003_1) := (blk_cell BK251.out 3).trans rfl; have hfz44_0 := blk_frozen BK251.out 0; have hfz44_1 := blk_frozen BK251.out 1; have hfz44_2 := blk_frozen BK251.out 2; have hfz44_3 := blk_frozen BK251.out 3)); try go_wp2_with (first | (go_at_call 45; (with_reducible refine (cambiumref12_letter.calls (rd y255 x26_1) t259 _ A14.out).mono ?_); rintro e w' ⟨rfl, ⟨nd, rfl⟩⟩; (try first | exact ⟨rfl, _, World.drewN_drewN _ _ _⟩ | exact ⟨rfl, _, Eq.trans (World.drewN_drewN _ _ _) (congrArg (World.drewN _) (Nat.add_assoc _ _ _))⟩)) | ((with_reducible refine gate_dst (N := 9) rfl ?_); refine bx_ (N := 9) (cs := #[.int .u8 0, .int .u32 0, .string (⟨#[]⟩ : ByteArray), .int .u32 0]) (t := 59) ?_; intro gb260 hg w39 hbox hb; have BK260 := ak_ (hbox); have GW260 := ge_ hg; have GE260 := ge_ hg; have NB251_260 := nl_ BK251 hg; have NB260_251 := ng_ BK251 hg; replace HO_24 := rb_ HO_24 hb; replace BK251 := kb_ BK251 hb; replace HB := hb_ hb; clear hb hbox hg; have hnb40 := NB260_251.out; have hnc40 := NB251_260.out; obtain ⟨hcz41_0, hcz41_1, hcz41_2, hcz41_3⟩ := cl4_ BK260; obtain ⟨hfz41_0, hfz41_1, hfz41_2, hfz41_3⟩ := fz4_ BK260) | (go_at_call 46; (with_reducible refine (cambiumref12_right.calls k1 (rd y255 x26_1) ((t252) % 4294967296) t253 0 true _ A37.out).mono ?_); rintro e w42 ⟨rfl, hb⟩; replace HO_24 := ak_ (Kd.R_below (rw_ HO_24) hb); replace BK251 := ak_ (blk_below (g := gb251) (o := .cells #[.int .u8 x252000_1, .int .u32 x252001_1, .string x252002_1, .int .u32 x252003_1] 59 (0, 0)) (bs_) hb); replace HB := hb_ hb; replace BK260 := ak_ (blk_below (g := gb260) (o := .cells #[.int .u8 (rd y255 x26_1), .int .u32 ((t252) % 4294967296), .string t253, .int .u32 0] 59 (0, 0)) (bs_) hb); (try clear hb); obtain ⟨hcz43_0, hcz43_1, hcz43_2, hcz43_3⟩ := cl4_ BK260; obtain ⟨hfz43_0, hfz43_1, hfz43_2, hfz43_3⟩ := fz4_ BK260; obtain ⟨hcz44_0, hcz44_1, hcz44_2, hcz44_3⟩ := cl4_ BK251; obtain ⟨hfz44_0, hfz44_1, hfz44_2⟩ := fz3_ BK251; have hfz44_3 := blk_frozen BK251.out 3)))
           refine bodyPost_ret (results_ct rfl _ _ gb251 59 #[.int .u8 (rd y255 x26_1), .int .u32 ((t252) % 4294967296), .string t253, .int .u32 0] (0, 0) _ rfl (bs_) Tryz.underlying59 rfl (by kernel_rfl)) rfl ?_
           exact ⟨by first | rfl | (simp [errW_none, errW_some] <;> rfl) | (simp [*, errW_none, errW_some] <;> rfl), bel_⟩
          case' n7_ =>
           replace c38 := Bool.eq_false_iff.mpr c38
           subst c38
           rw [if_neg (show ¬ (false = true) by decide)] at H
           refine ?z1_
        case' n5_ =>
         rw [if_neg c16] at H
         have c16b0 : (t259.toList == (a0.extract 0 1).toList) = false := beq_eq_false_iff_ne.mpr c16
         have c16b1 : (t259.toList != (a0.extract 0 1).toList) = true := bne_iff_ne.mpr c16
         refine ?z2_
       case n4_ =>
        rw [if_neg c15] at H
        exact absurd H (by simp)
      case n3_ =>
       rw [if_neg c13] at H
       exact absurd H (by simp)
     case n2_ =>
      rw [if_neg c12] at H
      exact absurd H (by simp)
    case n1_ =>
     rw [if_neg c11] at H
     have c11b0 : decide (x26_1 < (y255.length : Int)) = false := decide_eq_false c11
     clear c11
     simp only [Option.some.injEq, Prod.mk.injEq] at H
     obtain ⟨rfl, rfl, rfl, rfl, rfl⟩ := H
     obtain ⟨hcz49_0, hcz49_1, hcz49_2, hcz49_3⟩ := cl4_ BK251
     obtain ⟨hfz49_0, hfz49_1, hfz49_2, hfz49_3⟩ := fz4_ BK251
     go_wp2
     refine bodyPost_ret (results_ct rfl _ _ gb251 59 #[.int .u8 0, .int .u32 0, .string (⟨#[]⟩ : ByteArray), .int .u32 0] (0, 0) _ rfl (bs_) Tryz.underlying59 rfl (by kernel_rfl)) rfl ?_
     exact ⟨by first | rfl | (simp [errW_none, errW_some] <;> rfl) | (simp [*, errW_none, errW_some] <;> rfl), bel_⟩
    case p5_ | n5_ =>
     have H' := ak_ H
     clear H
     have p258 : 0 ≤ (x26_1 : Int) := of_decide_eq_true (by first | (with_reducible assumption) | assumption)
     have q258 : x26_1 < (y255.length : Int) := of_decide_eq_true (by first | (with_reducible assumption) | assumption)
     obtain ⟨ad258, e258, hx258_0⟩ := Kd.at_int (Kd.R_reads' HO_24.out).2.2 x26_1 p258 q258
     cases e258
     replace p258 := eq_true p258
     replace q258 := eq_true q258
     go_wp2_with (first | (go_at_call 45; (with_reducible refine (cambiumref12_letter.calls (rd y255 x26_1) t259 _ A14.out).mono ?_); rintro e w' ⟨rfl, ⟨nd, rfl⟩⟩; (try first | exact ⟨rfl, _, World.drewN_drewN _ _ _⟩ | exact ⟨rfl, _, Eq.trans (World.drewN_drewN _ _ _) (congrArg (World.drewN _) (Nat.add_assoc _ _ _))⟩)) | ((with_reducible refine gate_dst (N := 9) rfl ?_); refine bx_ (N := 9) (cs := #[.int .u8 0, .int .u32 0, .string (⟨#[]⟩ : ByteArray), .int .u32 0]) (t := 59) ?_; intro gb260 hg w901 hbox hb; have BK260 := ak_ (hbox); have GW260 := ge_ hg; have GE260 := ge_ hg; have NB251_260 := nl_ BK251 hg; have NB260_251 := ng_ BK251 hg; replace HO_24 := rb_ HO_24 hb; replace BK251 := kb_ BK251 hb; replace HB := hb_ hb; clear hb hbox hg; have hnb902 := NB260_251.out; have hnc902 := NB251_260.out; obtain ⟨hcz903_0, hcz903_1, hcz903_2, hcz903_3⟩ := cl4_ BK260; obtain ⟨hfz903_0, hfz903_1, hfz903_2, hfz903_3⟩ := fz4_ BK260) | (go_at_call 46; (with_reducible refine (cambiumref12_right.calls k1 (rd y255 x26_1) ((t252) % 4294967296) t253 0 false _ A37.out).mono ?_); rintro e w904 ⟨rfl, hb⟩; replace HO_24 := ak_ (Kd.R_below (rw_ HO_24) hb); replace BK251 := ak_ (blk_below (g := gb251) (o := .cells #[.int .u8 x252000_1, .int .u32 x252001_1, .string x252002_1, .int .u32 x252003_1] 59 (0, 0)) (bs_) hb); replace HB := hb_ hb; replace BK260 := ak_ (blk_below (g := gb260) (o := .cells #[.int .u8 (rd y255 x26_1), .int .u32 ((t252) % 4294967296), .string t253, .int .u32 0] 59 (0, 0)) (bs_) hb); (try clear hb)))
     repeat (go_quiet (first | (go_at_call 45; (with_reducible refine (cambiumref12_letter.calls (rd y255 x26_1) t259 _ A14.out).mono ?_); rintro e w' ⟨rfl, ⟨nd, rfl⟩⟩; (try first | exact ⟨rfl, _, World.drewN_drewN _ _ _⟩ | exact ⟨rfl, _, Eq.trans (World.drewN_drewN _ _ _) (congrArg (World.drewN _) (Nat.add_assoc _ _ _))⟩)) | ((with_reducible refine gate_dst (N := 9) rfl ?_); refine bx_ (N := 9) (cs := #[.int .u8 0, .int .u32 0, .string (⟨#[]⟩ : ByteArray), .int .u32 0]) (t := 59) ?_; intro gb260 hg w901 hbox hb; have n0_ := ak_ (Kd.R_below (ra_ HO_24) hb); have n1_ := ak_ (blk_below (bk_ BK251) hb); have n2_ := ak_ (below_step bel_ hb); have n3_ := ak_ (hbox); have n4_ := ak_ ((by rw [hg]; exact (below_size bel_) : w.heap.size ≤ gb260)); have n5_ := ak_ ((by rw [hg]; exact (below_size bel_) : w.heap.size ≤ gb260)); have n6_ := ak_ ((by rw [hg]; exact Nat.ne_of_lt (blk_lt (bk_ BK251)) : gb251 ≠ gb260)); have n7_ := ak_ ((by rw [hg]; exact Nat.ne_of_gt (blk_lt (bk_ BK251)) : gb260 ≠ gb251)); clear HO_24; clear BK251; clear HB; have HO_24 := n0_; have BK251 := n1_; have HB := n2_; have BK260 := n3_; have GW260 := n4_; have GE260 := n5_; have NB251_260 := n6_; have NB260_251 := n7_; clear n0_ n1_ n2_ n3_ n4_ n5_ n6_ n7_; clear hb hbox hg; have hnb902 := NB260_251.out; have hnc902 := NB251_260.out; have hcz903_0 : w901.cell? ⟨gb260, 0, none⟩ = some (.int .u8 0) := (blk_cell BK260.out 0).trans rfl; have hcz903_1 : w901.cell? ⟨gb260, 1, none⟩ = some (.int .u32 0) := (blk_cell BK260.out 1).trans rfl; have hcz903_2 : w901.cell? ⟨gb260, 2, none⟩ = some (.string (⟨#[]⟩ : ByteArray)) := (blk_cell BK260.out 2).trans rfl; have hcz903_3 : w901.cell? ⟨gb260, 3, none⟩ = some (.int .u32 0) := (blk_cell BK260.out 3).trans rfl; have hfz903_0 := blk_frozen BK260.out 0; have hfz903_1 := blk_frozen BK260.out 1; have hfz903_2 := blk_frozen BK260.out 2; have hfz903_3 := blk_frozen BK260.out 3) | (go_at_call 46; (with_reducible refine (cambiumref12_right.calls k1 (rd y255 x26_1) ((t252) % 4294967296) t253 0 false _ A37.out).mono ?_); rintro e w904 ⟨rfl, hb⟩; have n0_ := ak_ (Kd.R_below (rw_ HO_24) hb); have n1_ := ak_ (blk_below (g := gb251) (o := .cells #[.int .u8 x252000_1, .int .u32 x252001_1, .string x252002_1, .int .u32 x252003_1] 59 (0, 0)) (bs_) hb); have n2_ := ak_ (blk_below (g := gb260) (o := .cells #[.int .u8 (rd y255 x26_1), .int .u32 ((t252) % 4294967296), .string t253, .int .u32 0] 59 (0, 0)) (bs_) hb); have n3_ := ak_ (below_step bel_ hb); clear HO_24; clear BK251; clear BK260; clear HB; have HO_24 := n0_; have BK251 := n1_; have BK260 := n2_; have HB := n3_; clear n0_ n1_ n2_ n3_; (try clear hb))); try go_wp2_with (first | (go_at_call 45; (with_reducible refine (cambiumref12_letter.calls (rd y255 x26_1) t259 _ A14.out).mono ?_); rintro e w' ⟨rfl, ⟨nd, rfl⟩⟩; (try first | exact ⟨rfl, _, World.drewN_drewN _ _ _⟩ | exact ⟨rfl, _, Eq.trans (World.drewN_drewN _ _ _) (congrArg (World.drewN _) (Nat.add_assoc _ _ _))⟩)) | ((with_reducible refine gate_dst (N := 9) rfl ?_); refine bx_ (N := 9) (cs := #[.int .u8 0, .int .u32 0, .string (⟨#[]⟩ : ByteArray), .int .u32 0]) (t := 59) ?_; intro gb260 hg w901 hbox hb; have BK260 := ak_ (hbox); have GW260 := ge_ hg; have GE260 := ge_ hg; have NB251_260 := nl_ BK251 hg; have NB260_251 := ng_ BK251 hg; replace HO_24 := rb_ HO_24 hb; replace BK251 := kb_ BK251 hb; replace HB := hb_ hb; clear hb hbox hg; have hnb902 := NB260_251.out; have hnc902 := NB251_260.out; obtain ⟨hcz903_0, hcz903_1, hcz903_2, hcz903_3⟩ := cl4_ BK260; obtain ⟨hfz903_0, hfz903_1, hfz903_2, hfz903_3⟩ := fz4_ BK260) | (go_at_call 46; (with_reducible refine (cambiumref12_right.calls k1 (rd y255 x26_1) ((t252) % 4294967296) t253 0 false _ A37.out).mono ?_); rintro e w904 ⟨rfl, hb⟩; replace HO_24 := ak_ (Kd.R_below (rw_ HO_24) hb); replace BK251 := ak_ (blk_below (g := gb251) (o := .cells #[.int .u8 x252000_1, .int .u32 x252001_1, .string x252002_1, .int .u32 x252003_1] 59 (0, 0)) (bs_) hb); replace HB := hb_ hb; replace BK260 := ak_ (blk_below (g := gb260) (o := .cells #[.int .u8 (rd y255 x26_1), .int .u32 ((t252) % 4294967296), .string t253, .int .u32 0] 59 (0, 0)) (bs_) hb); (try clear hb))))
     go_roundg k1
     case measure => have := HK1.out; omega
     case rel => exact ⟨(wrap64 (x26_1 + 1)), (x252000_1), (x252001_1), (x252002_1), (x252003_1), (by first | rfl | (simp; done) | (simp [*]; done)), H', ⟨by have := HK1.out; omega⟩, ⟨ra_ HO_24⟩, ⟨bk_ BK251⟩, ⟨bel_⟩⟩
 rw [if_neg c5] at H
 exact absurd H (by simp)
end Go.Proofs.YtpnmajblhgnkoaaGreat.Z
end

section
namespace Go.Proofs.YtpnmajblhgnkoaaGreat.Z
open Go.Proofs.YtpnmajblhgnkoaaGreat.PM
theorem rletter_f (k : Int) : cambiumref12_letter.f k = some (ba (lett k)) := by
  unfold cambiumref12_letter.f lett
  repeat' (first | rfl | split)
theorem rprefix_f (k i : Int) (hi : 0 ≤ i ∧ i < 4294967296) : Ev (fun r => cambiumref12_Prefix.f r k i) (ba (prefL k i)) := by
  unfold cambiumref12_Prefix.f prefL
  rw [rletter_f]
  refine Ev.bindc rfl ?_
  rw [ba_toList]
  by_cases h : lett k = []
  · rw [if_pos h]
    exact Ev.ifp h (Ev.const rfl)
  · rw [if_neg h]
    obtain ⟨b, hb, _⟩ := lett_one h
    refine Ev.ifn h (Ev.bindc rfl (Ev.bind (bytes_f i 4 (by decide) hi.1 (by omega)) (Ev.ifp (by rw [ba_size, ba_size, be_len, hb]; simp) (Ev.const ?_))))
    rw [ba_app]
theorem rright_j1 (b : Bool) (k i : Int) (a : ByteArray) (c : Int) : Ev (fun r => cambiumref12_right.j1 r b k i a c) (!b && if k = 3 then decide (c < 512) else c == 0) := by
  refine Ev.step (fun k => by rw [cambiumref12_right.j1]) ?_
  cases b
  · refine Ev.ifn (by decide) ?_
    by_cases h3 : k = 3
    · exact Ev.ifp h3 (Ev.const (by rw [if_pos h3]; rfl))
    · exact Ev.ifn h3 (Ev.const (by rw [if_neg h3]; rfl))
  · exact Ev.ifp rfl (Ev.const rfl)
def nmBad (nd : Bool) (l : List UInt8) : Bool := match nd with
  | true => !nameL l
  | false => decide (l ≠ [])
theorem rright_j0 (nd : Bool) (k i : Int) (a : ByteArray) (c : Int) (ha : a.size ≤ 9223372036854775807) :
    Ev (fun r => cambiumref12_right.j0 r nd k i a c) (!(decide (lett k = []) || decide (i = 0) || nmBad nd a.data.toList) && if k = 3 then decide (c < 512) else c == 0) := by
  refine Ev.step (fun k => by rw [cambiumref12_right.j0]) (Ev.bindc (rletter_f k) ?_)
  rw [ba_toList]
  by_cases h1 : lett k = []
  · refine Ev.ifp h1 (Ev.val (rright_j1 _ _ _ _ _) ?_)
    rw [decide_eq_true h1]
    rfl
  · refine Ev.ifn h1 ?_
    rw [decide_eq_false h1]
    by_cases h2 : i = 0
    · refine Ev.ifp h2 (Ev.val (rright_j1 _ _ _ _ _) ?_)
      rw [decide_eq_true h2]
      rfl
    · refine Ev.ifn h2 ?_
      rw [decide_eq_false h2]
      cases nd
      · refine Ev.ifn (by decide) (Ev.val (rright_j1 _ _ _ _ _) ?_)
        rw [ByteArray.toList_eq]
        unfold nmBad
        by_cases hn : a.data.toList = [] <;> simp [hn]
      · refine Ev.ifp rfl (Ev.bind (refName a ha) ?_)
        unfold nmBad
        by_cases hn : nameL a.data.toList = true
        · refine Ev.ifp hn (Ev.val (rright_j1 _ _ _ _ _) ?_)
          rw [hn]
          rfl
        · refine Ev.ifn hn (Ev.val (rright_j1 _ _ _ _ _) ?_)
          rw [Bool.eq_false_iff.2 hn]
          rfl
theorem rright_f (k i : Int) (a : ByteArray) (c : Int) (hi : 0 ≤ i) (ha : a.size ≤ 9223372036854775807) : Ev (fun r => cambiumref12_right.f r k i a c) (rightK k i a.data.toList c) := by
  unfold cambiumref12_right.f
  have L : ∀ x : Int, lett x = [] ↔ ¬ (x = 1 ∨ x = 2 ∨ x = 3 ∨ x = 4) := by
    intro x
    unfold lett
    repeat' (first | (split; (subst_vars; simp)) | split)
    all_goals (first | (simp; omega) | simp)
    all_goals omega
  by_cases h2 : k = 2
  · refine Ev.ifp h2 (Ev.val (rright_j0 _ _ _ _ _ ha) ?_)
    subst h2
    unfold rightK
    rw [Bool.eq_iff_iff]
    by_cases hn : nameL a.data.toList = true
    · simp [L, hn, nmBad]; omega
    · simp [L, hn, nmBad]
  · refine Ev.ifn h2 (Ev.val (rright_j0 _ _ _ _ _ ha) ?_)
    unfold rightK
    rw [Bool.eq_iff_iff]
    by_cases h4 : k = 4
    · subst h4
      by_cases hn : nameL a.data.toList = true
      · simp [L, hn, nmBad]; omega
      · simp [L, hn, nmBad]
    · have e4 : (k == 4) = false := by simpa using h4
      rw [e4]
      by_cases h3 : k = 3
      · subst h3
        by_cases hn : a.data.toList = []
        · simp [L, hn, nmBad]; omega
        · simp [L, hn, nmBad]
      · by_cases h1 : k = 1
        · subst h1
          by_cases hn : a.data.toList = []
          · simp [L, hn, nmBad]; omega
          · simp [L, hn, nmBad]
        · have : lett k = [] := (L k).2 (by omega)
          simp [this, h1, h2, h3, h4]
theorem rkey_f (k i : Int) (a : ByteArray) (c : Int) (hi : 0 ≤ i ∧ i < 4294967296) (hc : 0 ≤ c) (ha : a.size ≤ 9223372036854775807) :
    Ev (fun r => cambiumref12_Key.f r k i a c) (ba (keyS k i a.data.toList c).1, (keyS k i a.data.toList c).2) := by
  unfold cambiumref12_Key.f keyS
  have hz := size_len a
  refine Ev.bind (rright_f k i a c hi.1 ha) ?_
  by_cases h : rightK k i a.data.toList c = true
  · rw [if_pos h]
    have hl := prefL_len (i := i) (lett_ne h)
    obtain ⟨hn, hc2⟩ := rightK_size h
    refine Ev.ifp h (Ev.bind (rprefix_f k i hi) (Ev.ifp (by rw [ba_size]; omega) ?_))
    unfold keyL
    by_cases h3 : k = 3
    · rw [if_pos h3]
      have ha0 : a.data.toList = [] := by
        unfold rightK at h
        rcases (of_decide_eq_true h).2 with h | h | h
        · exact h.2.1
        · omega
        · exact h.2.1
      have ea : a = ba [] := by rw [← ha0, data_ba]
      refine Ev.ifp h3 (Ev.bind (bytes_f c 4 (by decide) hc (by omega)) ?_)
      rw [ea, ba_app, List.append_nil]
      refine Ev.ifp (by rw [ba_size, ba_size, be_len]; omega) (Ev.const ?_)
      rw [ba_app]
    · rw [if_neg h3]
      refine Ev.ifn h3 (Ev.const ?_)
      rw [← ba_app, data_ba]
  · rw [if_neg h]
    exact Ev.ifn h (Ev.const rfl)
end Go.Proofs.YtpnmajblhgnkoaaGreat.Z
end

section
namespace Go.Proofs.YtpnmajblhgnkoaaGreat.Z
open Go.Proofs.YtpnmajblhgnkoaaGreat.PM
def kinds : List Int := [1, 2, 3, 4]
theorem rparse_none (a : ByteArray) (ino : Int) (rest : ByteArray) (hs : 5 ≤ a.data.toList.length) : ∀ d i : Nat, 4 = i + d → (∀ j : Nat, i ≤ j → j < 4 → lett ((j : Int) + 1) ≠ [a.data.toList.headD 0]) →
    Ev (fun k => cambiumref12_Parse.l0 k a ino rest kinds 4 (i : Int)) (0, 0, ⟨#[]⟩, 0, 4)
  | 0, i, hi, h => by
    refine Ev.step (fun k => by rw [cambiumref12_Parse.l0]) ?_
    exact Ev.ifn (by omega) (Ev.const rfl)
  | d + 1, i, hi, h => by
    refine Ev.step (fun k => by rw [cambiumref12_Parse.l0]) ?_
    have hz := size_len a
    have hr : rd kinds (i : Int) = (i : Int) + 1 := by
      have : i = 0 ∨ i = 1 ∨ i = 2 ∨ i = 3 := by omega
      rcases this with rfl | rfl | rfl | rfl <;> rfl
    have e3 : wrap64 ((i : Int) + 1) = ((i + 1 : Nat) : Int) := by rw [w64 (by omega) (by omega)]; omega
    have e1 : (a.extract 0 1).toList = [a.data.toList.headD 0] := by
      rw [ext_front, ba_toList]
      match a.data.toList, hs with
      | b :: _, _ => rfl
    rw [hr, e3, rletter_f]
    refine Ev.ifp (by omega) (Ev.ifp (by omega) (Ev.ifp (by simp [kinds]; omega) (Ev.bindc rfl (Ev.ifp (by omega) (Ev.ifn ?_ ?_)))))
    · rw [ba_toList, e1]
      exact h i (Nat.le_refl _) (by omega)
    · exact rparse_none a ino rest hs d (i + 1) (by omega) (fun j h1 h2 => h j (by omega) h2)
theorem lett_kind {k : Int} {b : UInt8} (h : lett k = [b]) : kindOf b = k := by
  obtain ⟨c, hc, hk⟩ := lett_one (k := k) (by rw [h]; simp)
  rw [h] at hc
  injection hc with hc
  rw [hc]
  exact hk
theorem rparse_l0 (a : ByteArray) (hs : 5 ≤ a.data.toList.length) (ha : a.size ≤ 9223372036854775807) : ∀ d i : Nat, 4 = i + d → (∀ j : Nat, j < i → lett ((j : Int) + 1) ≠ [a.data.toList.headD 0]) →
    Ev (fun k => cambiumref12_Parse.l0 k a (g2 a.data.toList) (ba (r5 a.data.toList)) kinds 4 (i : Int)) (baK (parsS a.data.toList))
  | 0, i, hi, h => by
    have hk : g1 a.data.toList = 0 := by
      by_cases hk : g1 a.data.toList = 0
      · exact hk
      · have hl := kind_lett (b := a.data.toList.headD 0) hk
        have hr : 1 ≤ kindOf (a.data.toList.headD 0) ∧ kindOf (a.data.toList.headD 0) ≤ 4 := by
          have hk : kindOf (a.data.toList.headD 0) ≠ 0 := hk
          unfold kindOf at *
          repeat' split
          all_goals first | omega | (exfalso; simp_all)
        have := h (kindOf (a.data.toList.headD 0) - 1).toNat (by omega)
        rw [show (((kindOf (a.data.toList.headD 0) - 1).toNat : Nat) : Int) + 1 = kindOf (a.data.toList.headD 0) by omega] at this
        exact absurd hl this
    have e : baK (parsS a.data.toList) = (0, 0, (⟨#[]⟩ : ByteArray), 0, 4) := by
      unfold parsS
      rw [if_neg (by omega), if_neg (by omega), if_neg (fun h => right_kind h hk)]
      rfl
    rw [e]
    exact rparse_none a _ _ hs 0 i hi (fun j h1 h2 => by omega)
  | d + 1, i, hi, h => by
    have hz := size_len a
    have hr : rd kinds (i : Int) = (i : Int) + 1 := by
      have : i = 0 ∨ i = 1 ∨ i = 2 ∨ i = 3 := by omega
      rcases this with rfl | rfl | rfl | rfl <;> rfl
    have e3 : wrap64 ((i : Int) + 1) = ((i + 1 : Nat) : Int) := by rw [w64 (by omega) (by omega)]; omega
    have e1 : (a.extract 0 1).toList = [a.data.toList.headD 0] := by
      rw [ext_front, ba_toList]
      match a.data.toList, hs with
      | b :: _, _ => rfl
    have hg2 := g2_range (l := a.data.toList) (by omega)
    have hlr : (r5 a.data.toList).length = a.data.toList.length - 5 := by unfold r5; simp only [List.length_drop]; omega
    refine Ev.step (fun k => by rw [cambiumref12_Parse.l0]) ?_
    rw [hr, e3, rletter_f, Int.emod_eq_of_lt hg2.1 hg2.2]
    refine Ev.ifp (by omega) (Ev.ifp (by omega) (Ev.ifp (by simp [kinds]; omega) (Ev.bindc rfl (Ev.ifp (by omega) ?_))))
    by_cases hb : lett ((i : Int) + 1) = [a.data.toList.headD 0]
    · refine Ev.ifp (by rw [ba_toList, e1]; exact hb) ?_
      have hk : g1 a.data.toList = (i : Int) + 1 := lett_kind hb
      have rest_ : Ev (fun k => cambiumref12_Parse.l0 k a (g2 a.data.toList) (ba (r5 a.data.toList)) kinds 4 ((i + 1 : Nat) : Int)) (0, 0, ⟨#[]⟩, 0, 4) := by
        refine rparse_none a _ _ hs d (i + 1) (by omega) (fun j h1 h2 e => ?_)
        have h1' := lett_kind e
        have h2' := lett_kind hb
        omega
      by_cases h3 : (i : Int) + 1 = 3
      · refine Ev.ifp h3 ?_
        have hg3 : g1 a.data.toList = 3 := by omega
        have bad : ¬ ((r5 a.data.toList).length = 4 ∧ rightK 3 (g2 a.data.toList) [] (num (r5 a.data.toList)) = true) → baK (parsS a.data.toList) = (0, 0, (⟨#[]⟩ : ByteArray), 0, 4) := by
          intro h
          unfold parsS
          rw [if_neg (by omega), if_pos hg3, if_neg h]
          rfl
        have good : (r5 a.data.toList).length = 4 ∧ rightK 3 (g2 a.data.toList) [] (num (r5 a.data.toList)) = true → baK (parsS a.data.toList) = (3, g2 a.data.toList, (⟨#[]⟩ : ByteArray), (num (r5 a.data.toList) : Int), 0) := by
          intro h
          unfold parsS
          rw [if_neg (by omega), if_pos hg3, if_pos h]
          rfl
        have t := rnum_f (ba (r5 a.data.toList)) 4 (by decide) (by decide)
        rw [ba_data] at t
        refine Ev.bind t ?_
        unfold ba3 takeS
        by_cases h4 : (r5 a.data.toList).length < 4
        · simp only [if_pos h4]
          rw [bad (fun h => by have := h.1; omega)]
          refine Ev.ifn (by decide) (Ev.step (fun k => by rw [cambiumref12_Parse.j1]) ?_)
          exact Ev.ifp rfl (Ev.const rfl)
        · simp only [if_neg h4]
          refine Ev.ifp trivial ?_
          rw [ba_toList]
          by_cases h44 : (r5 a.data.toList).length = 4
          · have ed : (r5 a.data.toList).drop 4 = [] := List.drop_eq_nil_of_le (by omega)
            have et : (r5 a.data.toList).take 4 = r5 a.data.toList := List.take_of_length_le (by omega)
            rw [ed, et]
            have hn := num_lt 4 (r5 a.data.toList) h44
            rw [p4] at hn
            refine Ev.step (fun k => by rw [cambiumref12_Parse.j1]) ?_
            rw [e3, Int.emod_eq_of_lt (by omega) (by omega), h3]
            refine Ev.ifn (by decide) (Ev.bind (rright_f 3 (g2 a.data.toList) ⟨#[]⟩ _ hg2.1 (by decide)) ?_)
            by_cases hok : rightK 3 (g2 a.data.toList) [] (num (r5 a.data.toList)) = true
            · rw [good ⟨h44, hok⟩]
              exact Ev.ifp hok (Ev.const rfl)
            · rw [bad (fun h => hok h.2)]
              exact Ev.ifn hok rest_
          · have ed : ((r5 a.data.toList).drop 4 != []) = true := by
              have : (r5 a.data.toList).drop 4 ≠ [] := fun e => by
                have := congrArg List.length e
                rw [List.length_drop] at this
                simp at this
                omega
              simpa using this
            rw [ed, bad (fun h => h44 h.1)]
            refine Ev.step (fun k => by rw [cambiumref12_Parse.j1]) ?_
            exact Ev.ifp rfl (Ev.const rfl)
      · refine Ev.ifn h3 ?_
        have hg3 : ¬ g1 a.data.toList = 3 := by omega
        have hrt := rright_f ((i : Int) + 1) (g2 a.data.toList) (ba (r5 a.data.toList)) 0 hg2.1 (by rw [ba_size]; omega)
        rw [ba_data] at hrt
        refine Ev.bind hrt ?_
        by_cases hok : rightK ((i : Int) + 1) (g2 a.data.toList) (r5 a.data.toList) 0 = true
        · refine Ev.ifp hok (Ev.const ?_)
          unfold parsS
          rw [← hk] at hok
          rw [if_neg (by omega), if_neg hg3, if_pos hok, hk]
          rfl
        · have e : baK (parsS a.data.toList) = (0, 0, (⟨#[]⟩ : ByteArray), 0, 4) := by
            unfold parsS
            rw [← hk] at hok
            rw [if_neg (by omega), if_neg hg3, if_neg hok]
            rfl
          rw [e]
          exact Ev.ifn hok rest_
    · refine Ev.ifn (by rw [ba_toList, e1]; exact hb) ?_
      refine rparse_l0 a hs ha d (i + 1) (by omega) (fun j hj => ?_)
      by_cases hji : j = i
      · subst hji; exact hb
      · exact h j (by omega)
theorem rparse_f (a : ByteArray) (hs : a.size ≤ 9223372036854775807) : Ev (fun k => cambiumref12_Parse.f k a) (baK (parsS a.data.toList)) := by
  unfold cambiumref12_Parse.f
  have hz := size_len a
  by_cases h5 : a.data.toList.length < 5
  · refine Ev.ifp (by omega) (Ev.const ?_)
    unfold parsS
    rw [if_pos h5]
    rfl
  · refine Ev.ifn (by omega) (Ev.ifp (by omega) ?_)
    have t := rnum_f (a.extract 1 a.size) 4 (by decide) (by decide)
    rw [ext_end, ba_data] at t
    have e : takeS 4 (a.data.toList.drop 1) = (g2 a.data.toList, r5 a.data.toList, 0) := by
      unfold takeS
      have : (a.data.toList.drop 1).length = a.data.toList.length - 1 := by simp
      rw [if_neg (by omega), if_neg (by omega)]
      rfl
    rw [e, ← ext_end] at t
    refine Ev.bind t (Ev.bindc rfl ?_)
    exact rparse_l0 a (by omega) hs 4 0 (by omega) (fun j hj => by omega)
end Go.Proofs.YtpnmajblhgnkoaaGreat.Z
end

section
namespace Go.Proofs.YtpnmajblhgnkoaaGreat.Z
attribute [local go_sem] max2_int min2_int max_two min_two max_three min_three max_four min_four   -- for this text's walks alone
def cambiumref12_target.l0 : Nat → ByteArray → Int → Option (Bool)
 | 0, _, _ => none
 | k + 1, x0, x3 => if x3 < (x0.size : Int) then (if 0 ≤ x3 then (if (bt x0 x3) = 0 then (some false) else (cambiumref12_target.l0 k x0 (wrap64 (x3 + 1)))) else (none)) else (if x0.toList = ([] : List UInt8) then (some false) else (some (decide ((x0.size : Int) ≤ 64))))
def cambiumref12_target.f (k : Nat) (a0 : ByteArray) : Option (Bool) := cambiumref12_target.l0 k a0 0
theorem cambiumref12_target.mono_l : ∀ k, (∀ y0 y1, LeO (cambiumref12_target.l0 k y0 y1) (cambiumref12_target.l0 (k + 1) y0 y1))
 | 0 => by intros; intro r h; simp [cambiumref12_target.l0] at h
 | k + 1 => by
  have ih0 := cambiumref12_target.mono_l k
  intros
  unfold cambiumref12_target.l0
  repeat' (first | (with_reducible first | exact ih0 _ _ | exact LeO.refl _ | exact LeO.none _ | refine LeO.ite ?_ ?_ | refine LeO.bind ?_ (fun _ => ?_)))
theorem cambiumref12_target.mono : ∀ a0 k, LeO (cambiumref12_target.f k a0) (cambiumref12_target.f (k + 1) a0) := by
 intro a0 k
 have ih0 := cambiumref12_target.mono_l k
 unfold cambiumref12_target.f
 repeat' (first | (with_reducible first | exact ih0 _ _ | exact LeO.refl _ | exact LeO.none _ | refine LeO.ite ?_ ?_ | refine LeO.bind ?_ (fun _ => ?_)))
set_option maxHeartbeats 8000000 in
set_option maxRecDepth 100000 in
theorem cambiumref12_target.calls (k : Nat) (a0 : ByteArray) (r : Bool) (w : World) (h : cambiumref12_target.f k a0 = some r) :
  Calls Tryz.prog 73 #[.string a0] w fun e w' => e = .returned (.bool r) ∧ Drawn0 w w' := by
 have H : (cambiumref12_target.l0 k a0 0) = some r := h
 clear h
 have H' := ak_ H
 clear H
 go_enter Tryz.func73, Tryz.ntmps73
 go_wp2
 go_loopg [3] k (fun kq v3 w' => ∃ (x3_1 : Int), v3 = .int .i64 x3_1 ∧ Aside0 (cambiumref12_target.l0 kq a0 x3_1 = some r) ∧ Aside0 (kq ≤ k) ∧ Drawn0 w w')
 case atStart => exact ⟨(0), (by first | rfl | (simp; done) | (simp [*]; done)), H', ⟨Nat.le_refl _⟩, by repeat (first | exact Drawn0.refl _ | apply Drawn0.step)⟩
 case round =>
  clear H'
  obtain ⟨x3_1, rfl, HA, HK1, ⟨m1, rfl⟩⟩ := hrel
  cases gk with
  | zero => exact absurd HA.out (by simp [cambiumref12_target.l0])
  | succ k1 =>
   have H := HA.out
   clear HA
   simp only [cambiumref12_target.l0] at H
   by_cases c2 : x3_1 < (a0.size : Int)
   ·rw [if_pos c2] at H
    have c2b0 : decide (x3_1 < (a0.size : Int)) = true := decide_eq_true c2
    clear c2
    by_cases c3 : 0 ≤ x3_1
    ·rw [if_pos c3] at H
     have c3b0 : decide (0 ≤ x3_1) = true := decide_eq_true c3
     clear c3
     by_cases c5 : (bt a0 x3_1) = 0
     ·rw [if_pos c5] at H
      have c5b0 : ((bt a0 x3_1) == 0) = true := beq_iff_eq.mpr c5
      have c5b1 : ((bt a0 x3_1) != 0) = false := bne_eq_false_iff_eq.mpr c5
      clear c5
      obtain rfl := Option.some.inj H
      have p4 : 0 ≤ (x3_1 : Int) := of_decide_eq_true (by first | (with_reducible assumption) | assumption)
      have q4 : x3_1 < (a0.size : Int) := of_decide_eq_true (by first | (with_reducible assumption) | assumption)
      have hx4 := bt_at a0 x3_1
      replace p4 := eq_true p4
      replace q4 := eq_true q4
      go_wp2
      go_ret
      exact ⟨by first | rfl | (simp; done) | (simp [*]; done), by repeat (first | exact Drawn0.refl _ | apply Drawn0.step)⟩
     rw [if_neg c5] at H
     have c5b0 : ((bt a0 x3_1) == 0) = false := beq_eq_false_iff_ne.mpr c5
     have c5b1 : ((bt a0 x3_1) != 0) = true := bne_iff_ne.mpr c5
     have H' := ak_ H
     clear H
     have p4 : 0 ≤ (x3_1 : Int) := of_decide_eq_true (by first | (with_reducible assumption) | assumption)
     have q4 : x3_1 < (a0.size : Int) := of_decide_eq_true (by first | (with_reducible assumption) | assumption)
     have hx4 := bt_at a0 x3_1
     replace p4 := eq_true p4
     replace q4 := eq_true q4
     go_wp2
     go_roundg k1
     case measure => have := HK1.out; omega
     case rel => exact ⟨(wrap64 (x3_1 + 1)), (by first | rfl | (simp; done) | (simp [*]; done)), H', ⟨by have := HK1.out; omega⟩, by repeat (first | exact Drawn0.refl _ | apply Drawn0.step)⟩
    rw [if_neg c3] at H
    exact absurd H (by simp)
   rw [if_neg c2] at H
   have c2b0 : decide (x3_1 < (a0.size : Int)) = false := decide_eq_false c2
   clear c2
   by_cases c6 : a0.toList = ([] : List UInt8)
   ·rw [if_pos c6] at H
    have c6b0 : (a0.toList == ([] : List UInt8)) = true := beq_iff_eq.mpr c6
    have c6b1 : (a0.toList != ([] : List UInt8)) = false := bne_eq_false_iff_eq.mpr c6
    clear c6
    obtain rfl := Option.some.inj H
    go_wp2
    go_ret
    exact ⟨by first | rfl | (simp; done) | (simp [*]; done), by repeat (first | exact Drawn0.refl _ | apply Drawn0.step)⟩
   rw [if_neg c6] at H
   have c6b0 : (a0.toList == ([] : List UInt8)) = false := beq_eq_false_iff_ne.mpr c6
   have c6b1 : (a0.toList != ([] : List UInt8)) = true := bne_iff_ne.mpr c6
   obtain rfl := Option.some.inj H
   go_wp2
   go_ret
   exact ⟨by first | rfl | (simp; done) | (simp [*]; done), by repeat (first | exact Drawn0.refl _ | apply Drawn0.step)⟩
def cambiumref12_Check.f (k : Nat) (a0_0 : Int) (a0_1 : Int) (a0_2 : Int) (a0_3 : Int) (a0_4 : ByteArray) : Option (Int) := if a0_0 = 1 then (if a0_2 = 1 then (if a0_3 = 0 then (if (a0_4.toList = ([] : List UInt8)) then (some 0) else (some 4)) else (some 4)) else (some 4)) else (if a0_0 = 2 then (if a0_2 ≥ 1 then (if a0_3 ≤ 65536 then (if (a0_4.toList = ([] : List UInt8)) then (some 0) else (some 4)) else (some 4)) else (some 4)) else (if a0_0 = 3 then (if a0_2 ≥ 1 then ((cambiumref12_target.f k a0_4).bind fun t220 => (if t220 = true then (if (a0_3 = (((a0_4.size : Int)) % 4294967296)) then (some 0) else (some 4)) else (some 4))) else (some 4)) else (some 4)))
theorem cambiumref12_Check.mono : ∀ a0 a1 a2 a3 a4 k, LeO (cambiumref12_Check.f k a0 a1 a2 a3 a4) (cambiumref12_Check.f (k + 1) a0 a1 a2 a3 a4) := by
 intro a0 a1 a2 a3 a4 k
 unfold cambiumref12_Check.f
 repeat' (first | (with_reducible first | exact cambiumref12_target.mono _ _ | exact LeO.refl _ | exact LeO.none _ | refine LeO.ite ?_ ?_ | refine LeO.bind ?_ (fun _ => ?_)))
set_option maxHeartbeats 64000000 in
set_option maxRecDepth 100000 in
theorem cambiumref12_Check.calls (k : Nat) (a0_0 : Int) (a0_1 : Int) (a0_2 : Int) (a0_3 : Int) (a0_4 : ByteArray) (r : Int) (w : World) (h : cambiumref12_Check.f k a0_0 a0_1 a0_2 a0_3 a0_4 = some r) :
  Calls Tryz.prog 55 #[.agg #[.int .u8 a0_0, .int .u16 a0_1, .int .u32 a0_2, .int .u32 a0_3, .string a0_4]] w fun e w' => e = .returned (.int .i64 r) ∧ Below w.heap.size w w' := by
 have hu31 := Tryz.underlying31
 have HB := ak_ (Below.refl w.heap.size w)
 have H : (if a0_0 = 1 then (if a0_2 = 1 then (if a0_3 = 0 then (if (a0_4.toList = ([] : List UInt8)) then (some 0) else (some 4)) else (some 4)) else (some 4)) else (if a0_0 = 2 then (if a0_2 ≥ 1 then (if a0_3 ≤ 65536 then (if (a0_4.toList = ([] : List UInt8)) then (some 0) else (some 4)) else (some 4)) else (some 4)) else (if a0_0 = 3 then (if a0_2 ≥ 1 then ((cambiumref12_target.f k a0_4).bind fun t220 => (if t220 = true then (if (a0_3 = (((a0_4.size : Int)) % 4294967296)) then (some 0) else (some 4)) else (some 4))) else (some 4)) else (some 4)))) = some r := h
 clear h
 refine Or.elim (Classical.em (a0_0 = 1)) (fun c2 => ?p1_) (fun c2 => ?n1_)
 case' p1_ =>
  rw [if_pos c2] at H
  have c2b0 : (a0_0 == 1) = true := beq_iff_eq.mpr c2
  have c2b1 : (a0_0 != 1) = false := bne_eq_false_iff_eq.mpr c2
  clear c2
  refine Or.elim (Classical.em (a0_2 = 1)) (fun c3 => ?p2_) (fun c3 => ?n2_)
  case' p2_ =>
   rw [if_pos c3] at H
   have c3b0 : (a0_2 == 1) = true := beq_iff_eq.mpr c3
   have c3b1 : (a0_2 != 1) = false := bne_eq_false_iff_eq.mpr c3
   clear c3
   refine Or.elim (Classical.em (a0_3 = 0)) (fun c4 => ?p3_) (fun c4 => ?n3_)
   case' p3_ =>
    rw [if_pos c4] at H
    have c4b0 : (a0_3 == 0) = true := beq_iff_eq.mpr c4
    have c4b1 : (a0_3 != 0) = false := bne_eq_false_iff_eq.mpr c4
    clear c4
    refine Or.elim (Classical.em ((a0_4.toList = ([] : List UInt8)))) (fun c5 => ?p4_) (fun c5 => ?n4_)
    case' p4_ =>
     rw [if_pos c5] at H
     have c5b0 : (a0_4.toList == ([] : List UInt8)) = true := beq_iff_eq.mpr c5
     have c5b1 : (a0_4.toList != ([] : List UInt8)) = false := bne_eq_false_iff_eq.mpr c5
     clear c5
     obtain rfl := Option.some.inj H
     refine ?z1_
    case' n4_ =>
     rw [if_neg c5] at H
     have c5b0 : (a0_4.toList == ([] : List UInt8)) = false := beq_eq_false_iff_ne.mpr c5
     have c5b1 : (a0_4.toList != ([] : List UInt8)) = true := bne_iff_ne.mpr c5
     obtain rfl := Option.some.inj H
     refine ?z2_
   case' n3_ =>
    rw [if_neg c4] at H
    have c4b0 : (a0_3 == 0) = false := beq_eq_false_iff_ne.mpr c4
    have c4b1 : (a0_3 != 0) = true := bne_iff_ne.mpr c4
    obtain rfl := Option.some.inj H
    refine ?z3_
  case' n2_ =>
   rw [if_neg c3] at H
   have c3b0 : (a0_2 == 1) = false := beq_eq_false_iff_ne.mpr c3
   have c3b1 : (a0_2 != 1) = true := bne_iff_ne.mpr c3
   obtain rfl := Option.some.inj H
   refine ?z4_
 case' n1_ =>
  rw [if_neg c2] at H
  have c2b0 : (a0_0 == 1) = false := beq_eq_false_iff_ne.mpr c2
  have c2b1 : (a0_0 != 1) = true := bne_iff_ne.mpr c2
  refine Or.elim (Classical.em (a0_0 = 2)) (fun c14 => ?p5_) (fun c14 => ?n5_)
  case' p5_ =>
   rw [if_pos c14] at H
   have c14b0 : (a0_0 == 2) = true := beq_iff_eq.mpr c14
   have c14b1 : (a0_0 != 2) = false := bne_eq_false_iff_eq.mpr c14
   clear c14
   refine Or.elim (Classical.em (a0_2 ≥ 1)) (fun c15 => ?p6_) (fun c15 => ?n6_)
   case' p6_ =>
    rw [if_pos c15] at H
    have c15b0 : decide (1 ≤ a0_2) = true := decide_eq_true c15
    clear c15
    refine Or.elim (Classical.em (a0_3 ≤ 65536)) (fun c16 => ?p7_) (fun c16 => ?n7_)
    case' p7_ =>
     rw [if_pos c16] at H
     have c16b0 : decide (a0_3 ≤ 65536) = true := decide_eq_true c16
     clear c16
     refine Or.elim (Classical.em ((a0_4.toList = ([] : List UInt8)))) (fun c17 => ?p8_) (fun c17 => ?n8_)
     case' p8_ =>
      rw [if_pos c17] at H
      have c17b0 : (a0_4.toList == ([] : List UInt8)) = true := beq_iff_eq.mpr c17
      have c17b1 : (a0_4.toList != ([] : List UInt8)) = false := bne_eq_false_iff_eq.mpr c17
      clear c17
      obtain rfl := Option.some.inj H
      refine ?z5_
     case' n8_ =>
      rw [if_neg c17] at H
      have c17b0 : (a0_4.toList == ([] : List UInt8)) = false := beq_eq_false_iff_ne.mpr c17
      have c17b1 : (a0_4.toList != ([] : List UInt8)) = true := bne_iff_ne.mpr c17
      obtain rfl := Option.some.inj H
      refine ?z6_
    case' n7_ =>
     rw [if_neg c16] at H
     have c16b0 : decide (a0_3 ≤ 65536) = false := decide_eq_false c16
     clear c16
     obtain rfl := Option.some.inj H
     refine ?z7_
   case' n6_ =>
    rw [if_neg c15] at H
    have c15b0 : decide (1 ≤ a0_2) = false := decide_eq_false c15
    clear c15
    obtain rfl := Option.some.inj H
    refine ?z8_
  case' n5_ =>
   rw [if_neg c14] at H
   have c14b0 : (a0_0 == 2) = false := beq_eq_false_iff_ne.mpr c14
   have c14b1 : (a0_0 != 2) = true := bne_iff_ne.mpr c14
   refine Or.elim (Classical.em (a0_0 = 3)) (fun c26 => ?p9_) (fun c26 => ?n9_)
   case' p9_ =>
    rw [if_pos c26] at H
    have c26b0 : (a0_0 == 3) = true := beq_iff_eq.mpr c26
    have c26b1 : (a0_0 != 3) = false := bne_eq_false_iff_eq.mpr c26
    clear c26
    refine Or.elim (Classical.em (a0_2 ≥ 1)) (fun c27 => ?p10_) (fun c27 => ?n10_)
    case' p10_ =>
     rw [if_pos c27] at H
     have c27b0 : decide (1 ≤ a0_2) = true := decide_eq_true c27
     clear c27
     replace H := Option.bind_eq_some_iff.mp H
     obtain ⟨t220, A280, H⟩ := H
     try dsimp only at H
     have A28 := ak_ A280
     clear A280
     refine Or.elim (Classical.em (t220 = true)) (fun c29 => ?p11_) (fun c29 => ?n11_)
     case' p11_ =>
      subst c29
      rw [if_pos rfl] at H
      refine Or.elim (Classical.em ((a0_3 = (((a0_4.size : Int)) % 4294967296)))) (fun c30 => ?p12_) (fun c30 => ?n12_)
      case' p12_ =>
       rw [if_pos c30] at H
       have c30b0 : (a0_3 == (((a0_4.size : Int)) % 4294967296)) = true := beq_iff_eq.mpr c30
       have c30b1 : (a0_3 != (((a0_4.size : Int)) % 4294967296)) = false := bne_eq_false_iff_eq.mpr c30
       clear c30
       obtain rfl := Option.some.inj H
       refine ?z9_
      case' n12_ =>
       rw [if_neg c30] at H
       have c30b0 : (a0_3 == (((a0_4.size : Int)) % 4294967296)) = false := beq_eq_false_iff_ne.mpr c30
       have c30b1 : (a0_3 != (((a0_4.size : Int)) % 4294967296)) = true := bne_iff_ne.mpr c30
       obtain rfl := Option.some.inj H
       refine ?z10_
     case' n11_ =>
      replace c29 := Bool.eq_false_iff.mpr c29
      subst c29
      rw [if_neg (show ¬ (false = true) by decide)] at H
      obtain rfl := Option.some.inj H
      refine ?z11_
    case' n10_ =>
     rw [if_neg c27] at H
     have c27b0 : decide (1 ≤ a0_2) = false := decide_eq_false c27
     clear c27
     obtain rfl := Option.some.inj H
     refine ?z12_
   case' n9_ =>
    rw [if_neg c26] at H
    have c26b0 : (a0_0 == 3) = false := beq_eq_false_iff_ne.mpr c26
    have c26b1 : (a0_0 != 3) = true := bne_iff_ne.mpr c26
    obtain rfl := Option.some.inj H
    refine ?z13_
 case p4_ | n4_ | n3_ | n2_ | p8_ | n8_ | n7_ | n6_ | p12_ | n12_ | n11_ | n10_ | n9_ =>
  go_enter Tryz.func55, Tryz.ntmps55
  go_wp2_with (first | ((with_reducible refine gate_dst (N := 1) rfl ?_); (try (refine gate_guard (by rfl) ?_; dsimp only)); refine bx_ (N := 1) (cs := #[.int .u8 a0_0, .int .u16 a0_1, .int .u32 a0_2, .int .u32 a0_3, .string a0_4]) (t := 31) ?_; intro gb219 hg w901 hbox hb; have BK219 := ak_ (hbox); have GW219 := ge_ hg; have GE219 := ge_ hg; replace HB := hb_ hb; clear hb hbox hg; obtain ⟨hcz902_0, hcz902_1, hcz902_2, hcz902_3, hcz902_4⟩ := cl5_ BK219; obtain ⟨hfz902_0, hfz902_1, hfz902_2, hfz902_3, hfz902_4⟩ := fz5_ BK219) | (go_at_call 73; (with_reducible refine (cambiumref12_target.calls k a0_4 true _ A28.out).mono ?_); rintro e w' ⟨rfl, ⟨nd, rfl⟩⟩) | (go_at_call 73; (with_reducible refine (cambiumref12_target.calls k a0_4 false _ A28.out).mono ?_); rintro e w' ⟨rfl, ⟨nd, rfl⟩⟩))
  go_ret
  exact ⟨by first | rfl | (simp [errW_none, errW_some] <;> rfl) | (simp [*, errW_none, errW_some] <;> rfl), bel_⟩
def cambiumref01_Text.f (k : Nat) (a0 : ByteArray) : Option (ByteArray × Int) := if (a0.size : Int) > 65535 then (some ((⟨#[]⟩ : ByteArray), 2)) else ((cambiumref01_Bytes.f k (IntKind.u64.wrap ((a0.size : Int))) 2).bind fun t470 => (if t470.size + a0.size ≤ 9223372036854775807 then (some (t470 ++ a0, 0)) else (none)))
theorem cambiumref01_Text.mono : ∀ a0 k, LeO (cambiumref01_Text.f k a0) (cambiumref01_Text.f (k + 1) a0) := by
 intro a0 k
 unfold cambiumref01_Text.f
 repeat' (first | (with_reducible first | exact cambiumref01_Bytes.mono _ _ _ | exact LeO.refl _ | exact LeO.none _ | refine LeO.ite ?_ ?_ | refine LeO.bind ?_ (fun _ => ?_)))
set_option maxHeartbeats 8000000 in
set_option maxRecDepth 100000 in
theorem cambiumref01_Text.calls (k : Nat) (a0 : ByteArray) (r1 : ByteArray) (r2 : Int) (w : World) (h : cambiumref01_Text.f k a0 = some (r1, r2)) :
  Calls Tryz.prog 56 #[.string a0] w fun e w' => e = .returned (.tuple #[.string r1, .int .i64 r2]) ∧ Below w.heap.size w w' := by
 have HB := ak_ (Below.refl w.heap.size w)
 have H : (if (a0.size : Int) > 65535 then (some ((⟨#[]⟩ : ByteArray), 2)) else ((cambiumref01_Bytes.f k (IntKind.u64.wrap ((a0.size : Int))) 2).bind fun t470 => (if t470.size + a0.size ≤ 9223372036854775807 then (some (t470 ++ a0, 0)) else (none)))) = some (r1, r2) := h
 clear h
 by_cases c2 : (a0.size : Int) > 65535
 ·rw [if_pos c2] at H
  have c2b0 : decide (65535 < (a0.size : Int)) = true := decide_eq_true c2
  have c2b1 : decide (65535 < a0.size) = true := decide_eq_true (by omega)
  clear c2
  simp only [Option.some.injEq, Prod.mk.injEq] at H
  obtain ⟨rfl, rfl⟩ := H
  go_enter Tryz.func56, Tryz.ntmps56
  go_wp2
  go_ret2
  exact ⟨by first | rfl | (simp [errW_none, errW_some] <;> rfl) | (simp [*, errW_none, errW_some] <;> rfl), bel_⟩
 rw [if_neg c2] at H
 have c2b0 : decide (65535 < (a0.size : Int)) = false := decide_eq_false c2
 have c2b1 : decide (65535 < a0.size) = false := decide_eq_false (by omega)
 clear c2
 replace H := Option.bind_eq_some_iff.mp H
 obtain ⟨t470, A30, H⟩ := H
 try dsimp only at H
 have A3 := ak_ A30
 clear A30
 by_cases c4 : t470.size + a0.size ≤ 9223372036854775807
 ·rw [if_pos c4] at H
  have c4b0 := eq_true c4
  have c4b1 : decide (t470.size + a0.size ≤ 9223372036854775807) = true := decide_eq_true c4
  try have c4b2 : (9223372036854775807 < t470.size + a0.size) = False := eq_false (Nat.not_lt.2 c4)
  simp only [Option.some.injEq, Prod.mk.injEq] at H
  obtain ⟨rfl, rfl⟩ := H
  go_enter Tryz.func56, Tryz.ntmps56
  go_wp2_with (first | ((with_reducible refine gate_callee (f := 54) rfl ?_); refine goesL_ (some 10) rfl rfl Tryz.func54 (by kernel_rfl) rfl #[.int .u64 (IntKind.u64.wrap ((a0.size : Int))), .int .i64 2] rfl (by (try simp only [List.map_toArray, List.map_cons, List.map_nil]); first | done | rfl | (rw [show IntKind.u64.wrap ((a0.size : Int)) = ((a0.size : Int)) from IntWalk.u64_in _ (by simp only [decide_eq_false_iff_not, decide_eq_true_eq] at *; omega)]; rfl) | (simp only [List.length_drop, List.length_take]; rfl)) ?_; (with_reducible refine (cambiumref01_Bytes.calls k (IntKind.u64.wrap ((a0.size : Int))) 2 t470 _ A3.out).mono ?_); rintro e w5 ⟨rfl, hb⟩; refine ⟨_, rfl, ?_⟩; replace HB := hb_ hb; (try clear hb)))
  go_ret2
  exact ⟨by first | rfl | (simp [errW_none, errW_some] <;> rfl) | (simp [*, errW_none, errW_some] <;> rfl), bel_⟩
 rw [if_neg c4] at H
 exact absurd H (by simp)
def cambiumref12_Encode.f (k : Nat) (a0_0 : Int) (a0_1 : Int) (a0_2 : Int) (a0_3 : Int) (a0_4 : ByteArray) : Option (ByteArray × Int) := (cambiumref12_Check.f k a0_0 a0_1 a0_2 a0_3 a0_4).bind fun t472 => (if t472 = 0 then ((cambiumref01_Text.f k a0_4).bind fun bt473 => ((cambiumref01_Bytes.f k (IntKind.u64.wrap (a0_0)) 1).bind fun t475 => ((cambiumref01_Bytes.f k (IntKind.u64.wrap (a0_1)) 2).bind fun t476 => (if t475.size + t476.size ≤ 9223372036854775807 then ((cambiumref01_Bytes.f k (IntKind.u64.wrap (a0_2)) 4).bind fun t477 => (if (t475 ++ t476).size + t477.size ≤ 9223372036854775807 then ((cambiumref01_Bytes.f k (IntKind.u64.wrap (a0_3)) 4).bind fun t478 => (if ((t475 ++ t476) ++ t477).size + t478.size ≤ 9223372036854775807 then (if (((t475 ++ t476) ++ t477) ++ t478).size + bt473.1.size ≤ 9223372036854775807 then (some ((((t475 ++ t476) ++ t477) ++ t478) ++ bt473.1, 0)) else (none)) else (none))) else (none))) else (none))))) else (some ((⟨#[]⟩ : ByteArray), t472)))
theorem cambiumref12_Encode.mono : ∀ a0 a1 a2 a3 a4 k, LeO (cambiumref12_Encode.f k a0 a1 a2 a3 a4) (cambiumref12_Encode.f (k + 1) a0 a1 a2 a3 a4) := by
 intro a0 a1 a2 a3 a4 k
 unfold cambiumref12_Encode.f
 repeat' (first | (with_reducible first | exact cambiumref01_Bytes.mono _ _ _ | exact cambiumref01_Text.mono _ _ | exact cambiumref12_Check.mono _ _ _ _ _ _ | exact LeO.refl _ | exact LeO.none _ | refine LeO.ite ?_ ?_ | refine LeO.bind ?_ (fun _ => ?_)))
def cambiumref12_Encode.T5 : Bool × List (List Nat × List Nat) := (true, [([], []), ([0], [0]), ([1], [1]), ([2], [2]), ([], []), ([4], [4]), ([5], [5]), ([6, 3], [6]), ([3, 7], [3, 7]), ([], []), ([9], [9]), ([10], [10]), ([11, 7], [11]), ([8, 12], [8, 12]), ([], []), ([14], [14]), ([15], [15]), ([16, 12], [16]), ([13, 17], [13, 17]), ([], []), ([18, 19], [18, 19]), ([20, 17, 0, 1, 2, 3, 4, 5, 6, 7, 8, 9, 10, 11, 12, 13, 14, 15, 16, 17, 18, 19, 20], [20]), ([21, 0, 1, 2, 3, 4, 5, 6, 7, 8, 9, 10, 11, 12, 13, 14, 15, 16, 17, 18, 19, 20, 21], [])])
def cambiumref12_Encode.B5 : List Nat := [0, 1, 3, 7, 0, 16, 48, 127, 255, 0, 512, 1536, 3839, 8191, 0, 16384, 49152, 122623, 262143, 0, 1048575, 2097151, 4194303]
theorem cambiumref12_Encode.tab5 : rtab .any (opsOf Tryz.f35 5) = cambiumref12_Encode.T5 := by kernel_rfl
theorem cambiumref12_Encode.bits5 : waitsOk cambiumref12_Encode.T5.2 cambiumref12_Encode.B5 = true := by kernel_rfl
set_option maxHeartbeats 8000000 in
set_option maxRecDepth 100000 in
theorem cambiumref12_Encode.calls (k : Nat) (a0_0 : Int) (a0_1 : Int) (a0_2 : Int) (a0_3 : Int) (a0_4 : ByteArray) (r1 : ByteArray) (r2 : Int) (w : World) (h : cambiumref12_Encode.f k a0_0 a0_1 a0_2 a0_3 a0_4 = some (r1, r2)) :
  Calls Tryz.prog 35 #[.agg #[.int .u8 a0_0, .int .u16 a0_1, .int .u32 a0_2, .int .u32 a0_3, .string a0_4]] w fun e w' => e = .returned (.tuple #[.string r1, .int .i64 r2]) ∧ Below w.heap.size w w' := by
 have hu31 := Tryz.underlying31
 have HB := ak_ (Below.refl w.heap.size w)
 have H : ((cambiumref12_Check.f k a0_0 a0_1 a0_2 a0_3 a0_4).bind fun t472 => (if t472 = 0 then ((cambiumref01_Text.f k a0_4).bind fun bt473 => ((cambiumref01_Bytes.f k (IntKind.u64.wrap (a0_0)) 1).bind fun t475 => ((cambiumref01_Bytes.f k (IntKind.u64.wrap (a0_1)) 2).bind fun t476 => (if t475.size + t476.size ≤ 9223372036854775807 then ((cambiumref01_Bytes.f k (IntKind.u64.wrap (a0_2)) 4).bind fun t477 => (if (t475 ++ t476).size + t477.size ≤ 9223372036854775807 then ((cambiumref01_Bytes.f k (IntKind.u64.wrap (a0_3)) 4).bind fun t478 => (if ((t475 ++ t476) ++ t477).size + t478.size ≤ 9223372036854775807 then (if (((t475 ++ t476) ++ t477) ++ t478).size + bt473.1.size ≤ 9223372036854775807 then (some ((((t475 ++ t476) ++ t477) ++ t478) ++ bt473.1, 0)) else (none)) else (none))) else (none))) else (none))))) else (some ((⟨#[]⟩ : ByteArray), t472)))) = some (r1, r2) := h
 clear h
 replace H := Option.bind_eq_some_iff.mp H
 obtain ⟨t472, A20, H⟩ := H
 try dsimp only at H
 have A2 := ak_ A20
 clear A20
 by_cases c3 : t472 = 0
 ·rw [if_pos c3] at H
  have c3b0 : (t472 == 0) = true := beq_iff_eq.mpr c3
  have c3b1 : (t472 != 0) = false := bne_eq_false_iff_eq.mpr c3
  clear c3
  replace H := Option.bind_eq_some_iff.mp H
  obtain ⟨⟨t473, t474⟩, A40, H⟩ := H
  try dsimp only at H
  have A4 := ak_ A40
  clear A40
  replace H := Option.bind_eq_some_iff.mp H
  obtain ⟨t475, A50, H⟩ := H
  try dsimp only at H
  have A5 := ak_ A50
  clear A50
  replace H := Option.bind_eq_some_iff.mp H
  obtain ⟨t476, A60, H⟩ := H
  try dsimp only at H
  have A6 := ak_ A60
  clear A60
  by_cases c7 : t475.size + t476.size ≤ 9223372036854775807
  ·rw [if_pos c7] at H
   have c7b0 := eq_true c7
   have c7b1 : decide (t475.size + t476.size ≤ 9223372036854775807) = true := decide_eq_true c7
   try have c7b2 : (9223372036854775807 < t475.size + t476.size) = False := eq_false (Nat.not_lt.2 c7)
   replace H := Option.bind_eq_some_iff.mp H
   obtain ⟨t477, A80, H⟩ := H
   try dsimp only at H
   have A8 := ak_ A80
   clear A80
   by_cases c9 : (t475 ++ t476).size + t477.size ≤ 9223372036854775807
   ·rw [if_pos c9] at H
    have c9b0 := eq_true c9
    have c9b1 : decide ((t475 ++ t476).size + t477.size ≤ 9223372036854775807) = true := decide_eq_true c9
    have c9b1x := c9b1
    (try simp only [ByteArray.size_append, Int.natCast_add] at c9b1x)
    try have c9b2 : (9223372036854775807 < (t475 ++ t476).size + t477.size) = False := eq_false (Nat.not_lt.2 c9)
    try have c9b2x := c9b2
    (try simp only [ByteArray.size_append, Int.natCast_add] at c9b2x)
    replace H := Option.bind_eq_some_iff.mp H
    obtain ⟨t478, A100, H⟩ := H
    try dsimp only at H
    have A10 := ak_ A100
    clear A100
    by_cases c11 : ((t475 ++ t476) ++ t477).size + t478.size ≤ 9223372036854775807
    ·rw [if_pos c11] at H
     have c11b0 := eq_true c11
     have c11b1 : decide (((t475 ++ t476) ++ t477).size + t478.size ≤ 9223372036854775807) = true := decide_eq_true c11
     have c11b1x := c11b1
     (try simp only [ByteArray.size_append, Int.natCast_add] at c11b1x)
     try have c11b2 : (9223372036854775807 < ((t475 ++ t476) ++ t477).size + t478.size) = False := eq_false (Nat.not_lt.2 c11)
     try have c11b2x := c11b2
     (try simp only [ByteArray.size_append, Int.natCast_add] at c11b2x)
     by_cases c12 : (((t475 ++ t476) ++ t477) ++ t478).size + t473.size ≤ 9223372036854775807
     ·rw [if_pos c12] at H
      have c12b0 := eq_true c12
      have c12b1 : decide ((((t475 ++ t476) ++ t477) ++ t478).size + t473.size ≤ 9223372036854775807) = true := decide_eq_true c12
      have c12b1x := c12b1
      (try simp only [ByteArray.size_append, Int.natCast_add] at c12b1x)
      try have c12b2 : (9223372036854775807 < (((t475 ++ t476) ++ t477) ++ t478).size + t473.size) = False := eq_false (Nat.not_lt.2 c12)
      try have c12b2x := c12b2
      (try simp only [ByteArray.size_append, Int.natCast_add] at c12b2x)
      simp only [Option.some.injEq, Prod.mk.injEq] at H
      obtain ⟨rfl, rfl⟩ := H
      go_enter Tryz.func35, Tryz.ntmps35
      try go_wp2_with (first | ((with_reducible refine gate_dst (N := 1) rfl ?_); refine bx_ (N := 1) (cs := #[.int .u8 a0_0, .int .u16 a0_1, .int .u32 a0_2, .int .u32 a0_3, .string a0_4]) (t := 31) ?_; intro gb471 hg w13 hbox hb; have BK471 := ak_ (hbox); have GW471 := ge_ hg; have GE471 := ge_ hg; replace HB := hb_ hb; clear hb hbox hg; obtain ⟨hcz14_0, hcz14_1, hcz14_2, hcz14_3, hcz14_4⟩ := cl5_ BK471; obtain ⟨hfz14_0, hfz14_1, hfz14_2, hfz14_3, hfz14_4⟩ := fz5_ BK471) | ((with_reducible refine gate_callee (f := 55) rfl ?_); refine gl_ (some 8) Tryz.func55 #[.agg #[.int .u8 a0_0, .int .u16 a0_1, .int .u32 a0_2, .int .u32 a0_3, .string a0_4]] ?_; (with_reducible refine (cambiumref12_Check.calls k a0_0 a0_1 a0_2 a0_3 a0_4 t472 _ A2.out).mono ?_); rintro e w15 ⟨rfl, hb⟩; refine ⟨_, rfl, ?_⟩; replace BK471 := kb_ BK471 hb; replace HB := hb_ hb; (try clear hb); obtain ⟨hcz16_0, hcz16_1, hcz16_2, hcz16_3, hcz16_4⟩ := cl5_ BK471; obtain ⟨hfz16_0, hfz16_1, hfz16_2, hfz16_3, hfz16_4⟩ := fz5_ BK471) | ((with_reducible refine gate_callee (f := 56) rfl ?_); refine gl_ (some 15) Tryz.func56 #[.string a0_4] ?_; (with_reducible refine (cambiumref01_Text.calls k a0_4 t473 t474 _ A4.out).mono ?_); rintro e w17 ⟨rfl, hb⟩; refine ⟨_, rfl, ?_⟩; replace BK471 := kb_ BK471 hb; replace HB := hb_ hb; (try clear hb)))
      replace BK471 := ak_ (blk_drew BK471.out)
      replace HB := ak_ (below_drew1 HB.out)
      refine start_ (n := 23) (S := fun w' => w'.cell? ⟨gb471, 0, none⟩ = some (.int .u8 a0_0) ∧ w'.cell? ⟨gb471, 1, none⟩ = some (.int .u16 a0_1) ∧ w'.cell? ⟨gb471, 2, none⟩ = some (.int .u32 a0_2) ∧ w'.cell? ⟨gb471, 3, none⟩ = some (.int .u32 a0_3) ∧ w'.cell? ⟨gb471, 4, none⟩ = some (.string a0_4)) (ds := []) #[false, false, false, false, false, false, false, false, false, false, false, false, false, false, false, false, false, false, false, false, false, false, false] (by kernel_rfl) rfl rfl hc_ (fun hHeld => ?_); refine with_tabW cambiumref12_Encode.tab5 cambiumref12_Encode.bits5 (fun HT_ HW_ => ?_)
      generalize w17.drew = w18 at BK471 HB hHeld ⊢
      refine pu_ 0 18 ?_
      refine pu_ 4 22 ?_
      refine pu_ 9 27 ?_
      refine pu_ 14 32 ?_
      refine pu_ 19 37 ?_
      refine tk5_ 1 19 ?_
      refine pu_ 2 20 ?_
      refine tk5_ 5 23 ?_
      refine pu_ 6 24 ?_
      refine tk5_ 10 28 ?_
      refine pu_ 11 29 ?_
      refine tk5_ 15 33 ?_
      refine pu_ 16 34 ?_
      refine on_ 3 21 (fun K hK => ?_)
      refine goes_ Tryz.func54 (by kernel_rfl) rfl #[.int .u64 (IntKind.u64.wrap (a0_0)), .int .i64 1] (by rfl) rfl rfl (by (try simp only [List.map_toArray, List.map_cons, List.map_nil]); first | done | rfl | (simp only [List.length_drop, List.length_take]; rfl)) ?_
      with_reducible refine (cambiumref01_Bytes.calls k (IntKind.u64.wrap (a0_0)) 1 t475 _ A5.out).mono ?_
      rintro e w19 ⟨rfl, hb⟩
      refine ⟨_, rfl, ?_⟩
      replace BK471 := kb_ BK471 hb
      replace HB := hb_ hb
      (try clear hb)
      (try clear hb2)
      (try clear hk)
      (try clear hi)
      refine hK.out _ _ hc_ (fun hHeld => ?_)
      clear hK K
      refine nm_ 21 ?_
      refine on_ 7 25 (fun K hK => ?_)
      refine goes_ Tryz.func54 (by kernel_rfl) rfl #[.int .u64 (IntKind.u64.wrap (a0_1)), .int .i64 2] (by rfl) rfl rfl (by (try simp only [List.map_toArray, List.map_cons, List.map_nil]); first | done | rfl | (simp only [List.length_drop, List.length_take]; rfl)) ?_
      with_reducible refine (cambiumref01_Bytes.calls k (IntKind.u64.wrap (a0_1)) 2 t476 _ A6.out).mono ?_
      rintro e w20 ⟨rfl, hb⟩
      refine ⟨_, rfl, ?_⟩
      replace BK471 := kb_ BK471 hb
      replace HB := hb_ hb
      (try clear hb)
      (try clear hb2)
      (try clear hk)
      (try clear hi)
      refine hK.out _ _ hc_ (fun hHeld => ?_)
      clear hK K
      refine nm_ 25 ?_
      refine pu_ 8 26 ?_
      refine on_ 12 30 (fun K hK => ?_)
      refine goes_ Tryz.func54 (by kernel_rfl) rfl #[.int .u64 (IntKind.u64.wrap (a0_2)), .int .i64 4] (by rfl) rfl rfl (by (try simp only [List.map_toArray, List.map_cons, List.map_nil]); first | done | rfl | (simp only [List.length_drop, List.length_take]; rfl)) ?_
      with_reducible refine (cambiumref01_Bytes.calls k (IntKind.u64.wrap (a0_2)) 4 t477 _ A8.out).mono ?_
      rintro e w21 ⟨rfl, hb⟩
      refine ⟨_, rfl, ?_⟩
      replace BK471 := kb_ BK471 hb
      replace HB := hb_ hb
      (try clear hb)
      (try clear hb2)
      (try clear hk)
      (try clear hi)
      refine hK.out _ _ hc_ (fun hHeld => ?_)
      clear hK K
      refine nm_ 30 ?_
      refine pu_ 13 31 ?_
      refine on_ 17 35 (fun K hK => ?_)
      refine goes_ Tryz.func54 (by kernel_rfl) rfl #[.int .u64 (IntKind.u64.wrap (a0_3)), .int .i64 4] (by rfl) rfl rfl (by (try simp only [List.map_toArray, List.map_cons, List.map_nil]); first | done | rfl | (simp only [List.length_drop, List.length_take]; rfl)) ?_
      with_reducible refine (cambiumref01_Bytes.calls k (IntKind.u64.wrap (a0_3)) 4 t478 _ A10.out).mono ?_
      rintro e w22 ⟨rfl, hb⟩
      refine ⟨_, rfl, ?_⟩
      replace BK471 := kb_ BK471 hb
      replace HB := hb_ hb
      (try clear hb)
      (try clear hb2)
      (try clear hk)
      (try clear hi)
      refine hK.out _ _ hc_ (fun hHeld => ?_)
      clear hK K
      refine nm_ 35 ?_
      refine pu_ 18 36 ?_
      refine pu_ 20 38 ?_
      refine pu_ 21 2 ?_
      refine pu_ 22 3 ?_
      refine done_ (done_of HT_.out (by kernel_rfl)) ?_
      try go_wp2
      go_ret2
      exact ⟨by first | rfl | (simp [errW_none, errW_some] <;> rfl) | (simp [*, errW_none, errW_some] <;> rfl), bel_⟩
     rw [if_neg c12] at H
     exact absurd H (by simp)
    rw [if_neg c11] at H
    exact absurd H (by simp)
   rw [if_neg c9] at H
   exact absurd H (by simp)
  rw [if_neg c7] at H
  exact absurd H (by simp)
 rw [if_neg c3] at H
 have c3b0 : (t472 == 0) = false := beq_eq_false_iff_ne.mpr c3
 have c3b1 : (t472 != 0) = true := bne_iff_ne.mpr c3
 simp only [Option.some.injEq, Prod.mk.injEq] at H
 obtain ⟨rfl, rfl⟩ := H
 go_enter Tryz.func35, Tryz.ntmps35
 go_wp2_with (first | ((with_reducible refine gate_dst (N := 1) rfl ?_); refine bx_ (N := 1) (cs := #[.int .u8 a0_0, .int .u16 a0_1, .int .u32 a0_2, .int .u32 a0_3, .string a0_4]) (t := 31) ?_; intro gb471 hg w23 hbox hb; have BK471 := ak_ (hbox); have GW471 := ge_ hg; have GE471 := ge_ hg; replace HB := hb_ hb; clear hb hbox hg; obtain ⟨hcz24_0, hcz24_1, hcz24_2, hcz24_3, hcz24_4⟩ := cl5_ BK471; obtain ⟨hfz24_0, hfz24_1, hfz24_2, hfz24_3, hfz24_4⟩ := fz5_ BK471) | ((with_reducible refine gate_callee (f := 55) rfl ?_); refine gl_ (some 8) Tryz.func55 #[.agg #[.int .u8 a0_0, .int .u16 a0_1, .int .u32 a0_2, .int .u32 a0_3, .string a0_4]] ?_; (with_reducible refine (cambiumref12_Check.calls k a0_0 a0_1 a0_2 a0_3 a0_4 t472 _ A2.out).mono ?_); rintro e w25 ⟨rfl, hb⟩; refine ⟨_, rfl, ?_⟩; replace BK471 := kb_ BK471 hb; replace HB := hb_ hb; (try clear hb)))
 go_ret2
 exact ⟨by first | rfl | (simp [errW_none, errW_some] <;> rfl) | (simp [*, errW_none, errW_some] <;> rfl), bel_⟩
def cambiumref01_TakeText.f (k : Nat) (a0 : ByteArray) : Option (ByteArray × ByteArray × Int) := (cambiumref01_TakeNumber.f k a0 2).bind fun bt221 => (if bt221.2.2 = 0 then (if (IntKind.u64.wrap ((bt221.2.1.size : Int))) < bt221.1 then (some ((⟨#[]⟩ : ByteArray), (⟨#[]⟩ : ByteArray), 3)) else (if 0 ≤ bt221.1 then (if bt221.1 ≤ (bt221.2.1.size : Int) then (some (bt221.2.1.extract 0 (bt221.1 : Int).toNat, bt221.2.1.extract (bt221.1 : Int).toNat bt221.2.1.size, 0)) else (none)) else (none))) else (some ((⟨#[]⟩ : ByteArray), (⟨#[]⟩ : ByteArray), bt221.2.2)))
theorem cambiumref01_TakeText.mono : ∀ a0 k, LeO (cambiumref01_TakeText.f k a0) (cambiumref01_TakeText.f (k + 1) a0) := by
 intro a0 k
 unfold cambiumref01_TakeText.f
 repeat' (first | (with_reducible first | exact cambiumref01_TakeNumber.mono _ _ _ | exact LeO.refl _ | exact LeO.none _ | refine LeO.ite ?_ ?_ | refine LeO.bind ?_ (fun _ => ?_)))
set_option maxHeartbeats 64000000 in
set_option maxRecDepth 100000 in
theorem cambiumref01_TakeText.calls (k : Nat) (a0 : ByteArray) (r1 : ByteArray) (r2 : ByteArray) (r3 : Int) (w : World) (h : cambiumref01_TakeText.f k a0 = some (r1, r2, r3)) :
  Calls Tryz.prog 68 #[.string a0] w fun e w' => e = .returned (.tuple #[.string r1, .string r2, .int .i64 r3]) ∧ Drawn0 w w' := by
 have H : ((cambiumref01_TakeNumber.f k a0 2).bind fun bt221 => (if bt221.2.2 = 0 then (if (IntKind.u64.wrap ((bt221.2.1.size : Int))) < bt221.1 then (some ((⟨#[]⟩ : ByteArray), (⟨#[]⟩ : ByteArray), 3)) else (if 0 ≤ bt221.1 then (if bt221.1 ≤ (bt221.2.1.size : Int) then (some (bt221.2.1.extract 0 (bt221.1 : Int).toNat, bt221.2.1.extract (bt221.1 : Int).toNat bt221.2.1.size, 0)) else (none)) else (none))) else (some ((⟨#[]⟩ : ByteArray), (⟨#[]⟩ : ByteArray), bt221.2.2)))) = some (r1, r2, r3) := h
 clear h
 replace H := Option.bind_eq_some_iff.mp H
 obtain ⟨⟨t221, t222, t223⟩, A20, H⟩ := H
 try dsimp only at H
 have A2 := ak_ A20
 clear A20
 refine Or.elim (Classical.em (t223 = 0)) (fun c3 => ?p1_) (fun c3 => ?n1_)
 case' p1_ =>
  rw [if_pos c3] at H
  have c3b0 : (t223 == 0) = true := beq_iff_eq.mpr c3
  have c3b1 : (t223 != 0) = false := bne_eq_false_iff_eq.mpr c3
  clear c3
  refine Or.elim (Classical.em ((IntKind.u64.wrap ((t222.size : Int))) < t221)) (fun c4 => ?p2_) (fun c4 => ?n2_)
  case' p2_ =>
   rw [if_pos c4] at H
   have c4b0 : decide ((IntKind.u64.wrap ((t222.size : Int))) < t221) = true := decide_eq_true c4
   clear c4
   simp only [Option.some.injEq, Prod.mk.injEq] at H
   obtain ⟨rfl, rfl, rfl⟩ := H
   refine ?z1_
  case' n2_ =>
   rw [if_neg c4] at H
   have c4b0 : decide ((IntKind.u64.wrap ((t222.size : Int))) < t221) = false := decide_eq_false c4
   clear c4
   refine Or.elim (Classical.em (0 ≤ t221)) (fun c5 => ?p3_) (fun c5 => ?n3_)
   case' p3_ =>
    rw [if_pos c5] at H
    have c5b0 := eq_true c5
    have c5b1 : decide (0 ≤ t221) = true := decide_eq_true c5
    clear c5
    refine Or.elim (Classical.em (t221 ≤ (t222.size : Int))) (fun c6 => ?p4_) (fun c6 => ?n4_)
    case' p4_ =>
     rw [if_pos c6] at H
     have c6b0 := eq_true c6
     have c6b1 : decide (t221 ≤ (t222.size : Int)) = true := decide_eq_true c6
     clear c6
     have c7b0 := eq_true (of_decide_eq_true (by first | (with_reducible assumption) | assumption) : 0 ≤ t221)
     have c8b0 := eq_true (of_decide_eq_true (by first | (with_reducible assumption) | assumption) : t221 ≤ (t222.size : Int))
     simp only [Option.some.injEq, Prod.mk.injEq] at H
     obtain ⟨rfl, rfl, rfl⟩ := H
     refine ?z2_
    case n4_ =>
     rw [if_neg c6] at H
     exact absurd H (by simp)
   case n3_ =>
    rw [if_neg c5] at H
    exact absurd H (by simp)
 case' n1_ =>
  rw [if_neg c3] at H
  have c3b0 : (t223 == 0) = false := beq_eq_false_iff_ne.mpr c3
  have c3b1 : (t223 != 0) = true := bne_iff_ne.mpr c3
  simp only [Option.some.injEq, Prod.mk.injEq] at H
  obtain ⟨rfl, rfl, rfl⟩ := H
  refine ?z3_
 case p2_ | n2_ | n1_ =>
  go_enter Tryz.func68, Tryz.ntmps68
  go_wp2_with (first | (go_at_call 44; (with_reducible refine (cambiumref01_TakeNumber.calls k a0 2 t221 t222 t223 _ A2.out).mono ?_); rintro e w' ⟨rfl, ⟨nd, rfl⟩⟩; (try first | exact ⟨rfl, _, World.drewN_drewN _ _ _⟩ | exact ⟨rfl, _, Eq.trans (World.drewN_drewN _ _ _) (congrArg (World.drewN _) (Nat.add_assoc _ _ _))⟩)))
  repeat (go_quiet (first | (go_at_call 44; (with_reducible refine (cambiumref01_TakeNumber.calls k a0 2 t221 t222 t223 _ A2.out).mono ?_); rintro e w' ⟨rfl, ⟨nd, rfl⟩⟩; (try first | exact ⟨rfl, _, World.drewN_drewN _ _ _⟩ | exact ⟨rfl, _, Eq.trans (World.drewN_drewN _ _ _) (congrArg (World.drewN _) (Nat.add_assoc _ _ _))⟩))); try go_wp2_with (first | (go_at_call 44; (with_reducible refine (cambiumref01_TakeNumber.calls k a0 2 t221 t222 t223 _ A2.out).mono ?_); rintro e w' ⟨rfl, ⟨nd, rfl⟩⟩; (try first | exact ⟨rfl, _, World.drewN_drewN _ _ _⟩ | exact ⟨rfl, _, Eq.trans (World.drewN_drewN _ _ _) (congrArg (World.drewN _) (Nat.add_assoc _ _ _))⟩))))
  go_ret3
  exact ⟨by first | rfl | (simp; done) | (simp [*]; done), by repeat (first | exact Drawn0.refl _ | apply Drawn0.step)⟩
def cambiumref12_Decode.f (k : Nat) (a0 : ByteArray) : Option (Int × Int × Int × Int × ByteArray × Int) := if (a0.size : Int) < 11 then (some (0, 0, 0, 0, (⟨#[]⟩ : ByteArray), 4)) else (if 1 ≤ (a0.size : Int) then ((cambiumref01_TakeNumber.f k (a0.extract 1 a0.size) 2).bind fun bt225 => (if 3 ≤ (a0.size : Int) then ((cambiumref01_TakeNumber.f k (a0.extract 3 a0.size) 4).bind fun bt228 => (if 7 ≤ (a0.size : Int) then ((cambiumref01_TakeNumber.f k (a0.extract 7 a0.size) 4).bind fun bt231 => ((cambiumref01_TakeText.f k bt231.2.1).bind fun bt234 => (if 0 < (a0.size : Int) then (if bt234.2.2 = 0 then (if bt234.2.1.toList = ([] : List UInt8) then ((cambiumref12_Check.f k (bt a0 0) (IntKind.u16.wrap (bt225.1)) ((bt228.1) % 4294967296) ((bt231.1) % 4294967296) bt234.1).bind fun t238 => (if t238 = 0 then (some (bt a0 0, IntKind.u16.wrap (bt225.1), (bt228.1) % 4294967296, (bt231.1) % 4294967296, bt234.1, 0)) else (some (0, 0, 0, 0, (⟨#[]⟩ : ByteArray), 4)))) else (some (0, 0, 0, 0, (⟨#[]⟩ : ByteArray), 4))) else (some (0, 0, 0, 0, (⟨#[]⟩ : ByteArray), 4))) else (none)))) else (none))) else (none))) else (none))
theorem cambiumref12_Decode.mono : ∀ a0 k, LeO (cambiumref12_Decode.f k a0) (cambiumref12_Decode.f (k + 1) a0) := by
 intro a0 k
 unfold cambiumref12_Decode.f
 repeat' (first | (with_reducible first | exact cambiumref01_TakeNumber.mono _ _ _ | exact cambiumref01_TakeText.mono _ _ | exact cambiumref12_Check.mono _ _ _ _ _ _ | exact LeO.refl _ | exact LeO.none _ | refine LeO.ite ?_ ?_ | refine LeO.bind ?_ (fun _ => ?_)))
set_option maxHeartbeats 8000000 in
set_option maxRecDepth 100000 in
theorem cambiumref12_Decode.calls (k : Nat) (a0 : ByteArray) (r1 : Int) (r2 : Int) (r3 : Int) (r4 : Int) (r5 : ByteArray) (r6 : Int) (w : World) (h : cambiumref12_Decode.f k a0 = some (r1, r2, r3, r4, r5, r6)) :
  Calls Tryz.prog 41 #[.string a0] w fun e w' => e = .returned (.tuple #[.agg #[.int .u8 r1, .int .u16 r2, .int .u32 r3, .int .u32 r4, .string r5], .int .i64 r6]) ∧ Below w.heap.size w w' := by
 have hu31 := Tryz.underlying31
 have HB := ak_ (Below.refl w.heap.size w)
 have H : (if (a0.size : Int) < 11 then (some (0, 0, 0, 0, (⟨#[]⟩ : ByteArray), 4)) else (if 1 ≤ (a0.size : Int) then ((cambiumref01_TakeNumber.f k (a0.extract 1 a0.size) 2).bind fun bt225 => (if 3 ≤ (a0.size : Int) then ((cambiumref01_TakeNumber.f k (a0.extract 3 a0.size) 4).bind fun bt228 => (if 7 ≤ (a0.size : Int) then ((cambiumref01_TakeNumber.f k (a0.extract 7 a0.size) 4).bind fun bt231 => ((cambiumref01_TakeText.f k bt231.2.1).bind fun bt234 => (if 0 < (a0.size : Int) then (if bt234.2.2 = 0 then (if bt234.2.1.toList = ([] : List UInt8) then ((cambiumref12_Check.f k (bt a0 0) (IntKind.u16.wrap (bt225.1)) ((bt228.1) % 4294967296) ((bt231.1) % 4294967296) bt234.1).bind fun t238 => (if t238 = 0 then (some (bt a0 0, IntKind.u16.wrap (bt225.1), (bt228.1) % 4294967296, (bt231.1) % 4294967296, bt234.1, 0)) else (some (0, 0, 0, 0, (⟨#[]⟩ : ByteArray), 4)))) else (some (0, 0, 0, 0, (⟨#[]⟩ : ByteArray), 4))) else (some (0, 0, 0, 0, (⟨#[]⟩ : ByteArray), 4))) else (none)))) else (none))) else (none))) else (none))) = some (r1, r2, r3, r4, r5, r6) := h
 clear h
 by_cases c2 : (a0.size : Int) < 11
 ·rw [if_pos c2] at H
  have c2b0 : decide ((a0.size : Int) < 11) = true := decide_eq_true c2
  have c2b1 : decide (a0.size < 11) = true := decide_eq_true (by omega)
  clear c2
  simp only [Option.some.injEq, Prod.mk.injEq] at H
  obtain ⟨rfl, rfl, rfl, rfl, rfl, rfl⟩ := H
  go_enter Tryz.func41, Tryz.ntmps41
  go_wp2_with (first | ((with_reducible refine gate_dst (N := 2) rfl ?_); refine bx_ (N := 2) (cs := #[.int .u8 0, .int .u16 0, .int .u32 0, .int .u32 0, .string (⟨#[]⟩ : ByteArray)]) (t := 31) ?_; intro gb224 hg w3 hbox hb; have BK224 := ak_ (hbox); have GW224 := ge_ hg; have GE224 := ge_ hg; replace HB := hb_ hb; clear hb hbox hg; obtain ⟨hcz4_0, hcz4_1, hcz4_2, hcz4_3, hcz4_4⟩ := cl5_ BK224; obtain ⟨hfz4_0, hfz4_1, hfz4_2, hfz4_3, hfz4_4⟩ := fz5_ BK224))
  refine bodyPost_ret (results_ct rfl _ _ gb224 31 #[.int .u8 0, .int .u16 0, .int .u32 0, .int .u32 0, .string (⟨#[]⟩ : ByteArray)] (0, 0) _ rfl (bs_) Tryz.underlying31 rfl (by kernel_rfl)) rfl ?_
  exact ⟨by first | rfl | (simp [errW_none, errW_some] <;> rfl) | (simp [*, errW_none, errW_some] <;> rfl), bel_⟩
 rw [if_neg c2] at H
 have c2b0 : decide ((a0.size : Int) < 11) = false := decide_eq_false c2
 have c2b1 : decide (a0.size < 11) = false := decide_eq_false (by omega)
 clear c2
 by_cases c5 : 1 ≤ (a0.size : Int)
 ·rw [if_pos c5] at H
  have c5b0 := eq_true c5
  have c5b1 : decide (1 ≤ (a0.size : Int)) = true := decide_eq_true c5
  clear c5
  replace H := Option.bind_eq_some_iff.mp H
  obtain ⟨⟨t225, t226, t227⟩, A60, H⟩ := H
  try dsimp only at H
  have A6 := ak_ A60
  clear A60
  by_cases c7 : 3 ≤ (a0.size : Int)
  ·rw [if_pos c7] at H
   have c7b0 := eq_true c7
   have c7b1 : decide (3 ≤ (a0.size : Int)) = true := decide_eq_true c7
   clear c7
   replace H := Option.bind_eq_some_iff.mp H
   obtain ⟨⟨t228, t229, t230⟩, A80, H⟩ := H
   try dsimp only at H
   have A8 := ak_ A80
   clear A80
   by_cases c9 : 7 ≤ (a0.size : Int)
   ·rw [if_pos c9] at H
    have c9b0 := eq_true c9
    have c9b1 : decide (7 ≤ (a0.size : Int)) = true := decide_eq_true c9
    clear c9
    replace H := Option.bind_eq_some_iff.mp H
    obtain ⟨⟨t231, t232, t233⟩, A100, H⟩ := H
    try dsimp only at H
    have A10 := ak_ A100
    clear A100
    replace H := Option.bind_eq_some_iff.mp H
    obtain ⟨⟨t234, t235, t236⟩, A110, H⟩ := H
    try dsimp only at H
    have A11 := ak_ A110
    clear A110
    by_cases c12 : 0 < (a0.size : Int)
    ·rw [if_pos c12] at H
     have c12b0 : decide (0 < (a0.size : Int)) = true := decide_eq_true c12
     have c12b1 : decide (0 < a0.size) = true := decide_eq_true (by omega)
     clear c12
     by_cases c14 : t236 = 0
     ·rw [if_pos c14] at H
      have c14b0 : (t236 == 0) = true := beq_iff_eq.mpr c14
      have c14b1 : (t236 != 0) = false := bne_eq_false_iff_eq.mpr c14
      clear c14
      by_cases c15 : t235.toList = ([] : List UInt8)
      ·rw [if_pos c15] at H
       have c15b0 : (t235.toList == ([] : List UInt8)) = true := beq_iff_eq.mpr c15
       have c15b1 : (t235.toList != ([] : List UInt8)) = false := bne_eq_false_iff_eq.mpr c15
       clear c15
       replace H := Option.bind_eq_some_iff.mp H
       obtain ⟨t238, A160, H⟩ := H
       try dsimp only at H
       have A16 := ak_ A160
       clear A160
       by_cases c17 : t238 = 0
       ·rw [if_pos c17] at H
        have c17b0 : (t238 == 0) = true := beq_iff_eq.mpr c17
        have c17b1 : (t238 != 0) = false := bne_eq_false_iff_eq.mpr c17
        clear c17
        simp only [Option.some.injEq, Prod.mk.injEq] at H
        obtain ⟨rfl, rfl, rfl, rfl, rfl, rfl⟩ := H
        go_enter Tryz.func41, Tryz.ntmps41
        go_wp2_with (first | ((with_reducible refine gate_dst (N := 2) rfl ?_); refine bx_ (N := 2) (cs := #[.int .u8 0, .int .u16 0, .int .u32 0, .int .u32 0, .string (⟨#[]⟩ : ByteArray)]) (t := 31) ?_; intro gb224 hg w18 hbox hb; have BK224 := ak_ (hbox); have GW224 := ge_ hg; have GE224 := ge_ hg; replace HB := hb_ hb; clear hb hbox hg) | ((with_reducible refine gate_callee (f := 44) rfl ?_); refine gl_ (some 24) Tryz.func44 #[.string (a0.extract 1 a0.size), .int .i64 2] ?_; (with_reducible refine (cambiumref01_TakeNumber.calls k (a0.extract 1 a0.size) 2 t225 t226 t227 _ A6.out).mono ?_); rintro e w' ⟨rfl, ⟨nd, rfl⟩⟩; refine ⟨_, rfl, ?_⟩; (try (rw [drewN_self w18]; generalize hq_ : World.drewN w18 _ = w18; have n0_ : Aside0 (w18.heap[gb224]? = some (.cells #[.int .u8 0, .int .u16 0, .int .u32 0, .int .u32 0, .string (⟨#[]⟩ : ByteArray)] 31 (0, 0))) := ⟨by rw [← hq_]; exact (bk_ BK224)⟩; have n1_ : Aside0 (Below w.heap.size w w18) := ⟨by rw [← hq_]; exact bel_⟩; clear BK224 HB hq_; have BK224 := n0_; have HB := n1_; clear n0_ n1_))) | ((with_reducible refine gate_callee (f := 44) rfl ?_); refine gl_ (some 31) Tryz.func44 #[.string (a0.extract 3 a0.size), .int .i64 4] ?_; (with_reducible refine (cambiumref01_TakeNumber.calls k (a0.extract 3 a0.size) 4 t228 t229 t230 _ A8.out).mono ?_); rintro e w' ⟨rfl, ⟨nd, rfl⟩⟩; refine ⟨_, rfl, ?_⟩; (try (rw [drewN_self w18]; generalize hq_ : World.drewN w18 _ = w18; have n0_ : Aside0 (w18.heap[gb224]? = some (.cells #[.int .u8 0, .int .u16 0, .int .u32 0, .int .u32 0, .string (⟨#[]⟩ : ByteArray)] 31 (0, 0))) := ⟨by rw [← hq_]; exact (bk_ BK224)⟩; have n1_ : Aside0 (Below w.heap.size w w18) := ⟨by rw [← hq_]; exact bel_⟩; clear BK224 HB hq_; have BK224 := n0_; have HB := n1_; clear n0_ n1_))) | ((with_reducible refine gate_callee (f := 44) rfl ?_); refine gl_ (some 38) Tryz.func44 #[.string (a0.extract 7 a0.size), .int .i64 4] ?_; (with_reducible refine (cambiumref01_TakeNumber.calls k (a0.extract 7 a0.size) 4 t231 t232 t233 _ A10.out).mono ?_); rintro e w' ⟨rfl, ⟨nd, rfl⟩⟩; refine ⟨_, rfl, ?_⟩; (try (rw [drewN_self w18]; generalize hq_ : World.drewN w18 _ = w18; have n0_ : Aside0 (w18.heap[gb224]? = some (.cells #[.int .u8 0, .int .u16 0, .int .u32 0, .int .u32 0, .string (⟨#[]⟩ : ByteArray)] 31 (0, 0))) := ⟨by rw [← hq_]; exact (bk_ BK224)⟩; have n1_ : Aside0 (Below w.heap.size w w18) := ⟨by rw [← hq_]; exact bel_⟩; clear BK224 HB hq_; have BK224 := n0_; have HB := n1_; clear n0_ n1_))) | ((with_reducible refine gate_callee (f := 68) rfl ?_); refine gl_ (some 44) Tryz.func68 #[.string t232] ?_; (with_reducible refine (cambiumref01_TakeText.calls k t232 t234 t235 t236 _ A11.out).mono ?_); rintro e w' ⟨rfl, ⟨nd, rfl⟩⟩; refine ⟨_, rfl, ?_⟩; (try (rw [drewN_self w18]; generalize hq_ : World.drewN w18 _ = w18; have n0_ : Aside0 (w18.heap[gb224]? = some (.cells #[.int .u8 0, .int .u16 0, .int .u32 0, .int .u32 0, .string (⟨#[]⟩ : ByteArray)] 31 (0, 0))) := ⟨by rw [← hq_]; exact (bk_ BK224)⟩; have n1_ : Aside0 (Below w.heap.size w w18) := ⟨by rw [← hq_]; exact bel_⟩; clear BK224 HB hq_; have BK224 := n0_; have HB := n1_; clear n0_ n1_)); have p13 : 0 ≤ (0 : Int) := (by omega); have q13 : 0 < a0.size := (by have : (0 : Int) < (a0.size : Int) := of_decide_eq_true (by first | (with_reducible assumption) | assumption); omega); have hx13 : ∀ h : 0 < a0.size, ((a0[0]'h).toNat : Int) = bt a0 0 := bt_at a0 0; clear p13; have qi13 : (0 < (a0.size : Int)) = True := eq_true (of_decide_eq_true (by first | (with_reducible assumption) | assumption)); replace q13 := eq_true q13) | ((with_reducible refine gate_dst (N := 16) rfl ?_); refine bx_ (N := 16) (cs := #[.int .u8 0, .int .u16 0, .int .u32 0, .int .u32 0, .string (⟨#[]⟩ : ByteArray)]) (t := 31) ?_; intro gb237 hg w19 hbox hb; have BK237 := ak_ (hbox); have GW237 := ge_ hg; have GE237 := ge_ hg; have NB224_237 := nl_ BK224 hg; have NB237_224 := ng_ BK224 hg; replace BK224 := kb_ BK224 hb; replace HB := hb_ hb; clear hb hbox hg; have hnb20 := NB237_224.out; have hnc20 := NB224_237.out; obtain ⟨hcz21_0, hcz21_1, hcz21_2, hcz21_3, hcz21_4⟩ := cl5_ BK237; obtain ⟨hfz21_0, hfz21_1, hfz21_2, hfz21_3, hfz21_4⟩ := fz5_ BK237) | (go_at_call 55; (with_reducible refine (cambiumref12_Check.calls k (bt a0 0) (IntKind.u16.wrap (t225)) ((t228) % 4294967296) ((t231) % 4294967296) t234 t238 _ A16.out).mono ?_); rintro e w22 ⟨rfl, hb⟩; replace BK224 := ak_ (blk_below (g := gb224) (o := .cells #[.int .u8 0, .int .u16 0, .int .u32 0, .int .u32 0, .string (⟨#[]⟩ : ByteArray)] 31 (0, 0)) (bs_) hb); replace BK237 := ak_ (blk_below (g := gb237) (o := .cells #[.int .u8 (bt a0 0), .int .u16 (IntKind.u16.wrap (t225)), .int .u32 ((t228) % 4294967296), .int .u32 ((t231) % 4294967296), .string t234] 31 (0, 0)) (bs_) hb); replace HB := hb_ hb; (try clear hb); obtain ⟨hcz23_0, hcz23_1, hcz23_2, hcz23_3, hcz23_4⟩ := cl5_ BK237; obtain ⟨hfz23_0, hfz23_1, hfz23_2, hfz23_3, hfz23_4⟩ := fz5_ BK237; obtain ⟨hcz24_0, hcz24_1, hcz24_2, hcz24_3, hcz24_4⟩ := cl5_ BK224; obtain ⟨hfz24_0, hfz24_1, hfz24_2, hfz24_3, hfz24_4⟩ := fz5_ BK224))
        refine bodyPost_ret (results_ct rfl _ _ gb224 31 #[.int .u8 (bt a0 0), .int .u16 (IntKind.u16.wrap (t225)), .int .u32 ((t228) % 4294967296), .int .u32 ((t231) % 4294967296), .string t234] (0, 0) _ rfl (bs_) Tryz.underlying31 rfl (by kernel_rfl)) rfl ?_
        exact ⟨by first | rfl | (simp [errW_none, errW_some] <;> rfl) | (simp [*, errW_none, errW_some] <;> rfl), bel_⟩
       rw [if_neg c17] at H
       have c17b0 : (t238 == 0) = false := beq_eq_false_iff_ne.mpr c17
       have c17b1 : (t238 != 0) = true := bne_iff_ne.mpr c17
       simp only [Option.some.injEq, Prod.mk.injEq] at H
       obtain ⟨rfl, rfl, rfl, rfl, rfl, rfl⟩ := H
       go_enter Tryz.func41, Tryz.ntmps41
       go_wp2_with (first | ((with_reducible refine gate_dst (N := 2) rfl ?_); refine bx_ (N := 2) (cs := #[.int .u8 0, .int .u16 0, .int .u32 0, .int .u32 0, .string (⟨#[]⟩ : ByteArray)]) (t := 31) ?_; intro gb224 hg w25 hbox hb; have BK224 := ak_ (hbox); have GW224 := ge_ hg; have GE224 := ge_ hg; replace HB := hb_ hb; clear hb hbox hg) | ((with_reducible refine gate_callee (f := 44) rfl ?_); refine gl_ (some 24) Tryz.func44 #[.string (a0.extract 1 a0.size), .int .i64 2] ?_; (with_reducible refine (cambiumref01_TakeNumber.calls k (a0.extract 1 a0.size) 2 t225 t226 t227 _ A6.out).mono ?_); rintro e w' ⟨rfl, ⟨nd, rfl⟩⟩; refine ⟨_, rfl, ?_⟩; (try (rw [drewN_self w25]; generalize hq_ : World.drewN w25 _ = w25; have n0_ : Aside0 (w25.heap[gb224]? = some (.cells #[.int .u8 0, .int .u16 0, .int .u32 0, .int .u32 0, .string (⟨#[]⟩ : ByteArray)] 31 (0, 0))) := ⟨by rw [← hq_]; exact (bk_ BK224)⟩; have n1_ : Aside0 (Below w.heap.size w w25) := ⟨by rw [← hq_]; exact bel_⟩; clear BK224 HB hq_; have BK224 := n0_; have HB := n1_; clear n0_ n1_))) | ((with_reducible refine gate_callee (f := 44) rfl ?_); refine gl_ (some 31) Tryz.func44 #[.string (a0.extract 3 a0.size), .int .i64 4] ?_; (with_reducible refine (cambiumref01_TakeNumber.calls k (a0.extract 3 a0.size) 4 t228 t229 t230 _ A8.out).mono ?_); rintro e w' ⟨rfl, ⟨nd, rfl⟩⟩; refine ⟨_, rfl, ?_⟩; (try (rw [drewN_self w25]; generalize hq_ : World.drewN w25 _ = w25; have n0_ : Aside0 (w25.heap[gb224]? = some (.cells #[.int .u8 0, .int .u16 0, .int .u32 0, .int .u32 0, .string (⟨#[]⟩ : ByteArray)] 31 (0, 0))) := ⟨by rw [← hq_]; exact (bk_ BK224)⟩; have n1_ : Aside0 (Below w.heap.size w w25) := ⟨by rw [← hq_]; exact bel_⟩; clear BK224 HB hq_; have BK224 := n0_; have HB := n1_; clear n0_ n1_))) | ((with_reducible refine gate_callee (f := 44) rfl ?_); refine gl_ (some 38) Tryz.func44 #[.string (a0.extract 7 a0.size), .int .i64 4] ?_; (with_reducible refine (cambiumref01_TakeNumber.calls k (a0.extract 7 a0.size) 4 t231 t232 t233 _ A10.out).mono ?_); rintro e w' ⟨rfl, ⟨nd, rfl⟩⟩; refine ⟨_, rfl, ?_⟩; (try (rw [drewN_self w25]; generalize hq_ : World.drewN w25 _ = w25; have n0_ : Aside0 (w25.heap[gb224]? = some (.cells #[.int .u8 0, .int .u16 0, .int .u32 0, .int .u32 0, .string (⟨#[]⟩ : ByteArray)] 31 (0, 0))) := ⟨by rw [← hq_]; exact (bk_ BK224)⟩; have n1_ : Aside0 (Below w.heap.size w w25) := ⟨by rw [← hq_]; exact bel_⟩; clear BK224 HB hq_; have BK224 := n0_; have HB := n1_; clear n0_ n1_))) | ((with_reducible refine gate_callee (f := 68) rfl ?_); refine gl_ (some 44) Tryz.func68 #[.string t232] ?_; (with_reducible refine (cambiumref01_TakeText.calls k t232 t234 t235 t236 _ A11.out).mono ?_); rintro e w' ⟨rfl, ⟨nd, rfl⟩⟩; refine ⟨_, rfl, ?_⟩; (try (rw [drewN_self w25]; generalize hq_ : World.drewN w25 _ = w25; have n0_ : Aside0 (w25.heap[gb224]? = some (.cells #[.int .u8 0, .int .u16 0, .int .u32 0, .int .u32 0, .string (⟨#[]⟩ : ByteArray)] 31 (0, 0))) := ⟨by rw [← hq_]; exact (bk_ BK224)⟩; have n1_ : Aside0 (Below w.heap.size w w25) := ⟨by rw [← hq_]; exact bel_⟩; clear BK224 HB hq_; have BK224 := n0_; have HB := n1_; clear n0_ n1_)); have p13 : 0 ≤ (0 : Int) := (by omega); have q13 : 0 < a0.size := (by have : (0 : Int) < (a0.size : Int) := of_decide_eq_true (by first | (with_reducible assumption) | assumption); omega); have hx13 : ∀ h : 0 < a0.size, ((a0[0]'h).toNat : Int) = bt a0 0 := bt_at a0 0; clear p13; have qi13 : (0 < (a0.size : Int)) = True := eq_true (of_decide_eq_true (by first | (with_reducible assumption) | assumption)); replace q13 := eq_true q13) | ((with_reducible refine gate_dst (N := 16) rfl ?_); refine bx_ (N := 16) (cs := #[.int .u8 0, .int .u16 0, .int .u32 0, .int .u32 0, .string (⟨#[]⟩ : ByteArray)]) (t := 31) ?_; intro gb237 hg w26 hbox hb; have BK237 := ak_ (hbox); have GW237 := ge_ hg; have GE237 := ge_ hg; have NB224_237 := nl_ BK224 hg; have NB237_224 := ng_ BK224 hg; replace BK224 := kb_ BK224 hb; replace HB := hb_ hb; clear hb hbox hg; have hnb27 := NB237_224.out; have hnc27 := NB224_237.out; obtain ⟨hcz28_0, hcz28_1, hcz28_2, hcz28_3, hcz28_4⟩ := cl5_ BK237; obtain ⟨hfz28_0, hfz28_1, hfz28_2, hfz28_3, hfz28_4⟩ := fz5_ BK237) | (go_at_call 55; (with_reducible refine (cambiumref12_Check.calls k (bt a0 0) (IntKind.u16.wrap (t225)) ((t228) % 4294967296) ((t231) % 4294967296) t234 t238 _ A16.out).mono ?_); rintro e w29 ⟨rfl, hb⟩; replace BK224 := ak_ (blk_below (g := gb224) (o := .cells #[.int .u8 0, .int .u16 0, .int .u32 0, .int .u32 0, .string (⟨#[]⟩ : ByteArray)] 31 (0, 0)) (bs_) hb); replace BK237 := ak_ (blk_below (g := gb237) (o := .cells #[.int .u8 (bt a0 0), .int .u16 (IntKind.u16.wrap (t225)), .int .u32 ((t228) % 4294967296), .int .u32 ((t231) % 4294967296), .string t234] 31 (0, 0)) (bs_) hb); replace HB := hb_ hb; (try clear hb); obtain ⟨hcz30_0, hcz30_1, hcz30_2, hcz30_3, hcz30_4⟩ := cl5_ BK224; obtain ⟨hfz30_0, hfz30_1, hfz30_2, hfz30_3, hfz30_4⟩ := fz5_ BK224))
       refine bodyPost_ret (results_ct rfl _ _ gb224 31 #[.int .u8 0, .int .u16 0, .int .u32 0, .int .u32 0, .string (⟨#[]⟩ : ByteArray)] (0, 0) _ rfl (bs_) Tryz.underlying31 rfl (by kernel_rfl)) rfl ?_
       exact ⟨by first | rfl | (simp [errW_none, errW_some] <;> rfl) | (simp [*, errW_none, errW_some] <;> rfl), bel_⟩
      rw [if_neg c15] at H
      have c15b0 : (t235.toList == ([] : List UInt8)) = false := beq_eq_false_iff_ne.mpr c15
      have c15b1 : (t235.toList != ([] : List UInt8)) = true := bne_iff_ne.mpr c15
      simp only [Option.some.injEq, Prod.mk.injEq] at H
      obtain ⟨rfl, rfl, rfl, rfl, rfl, rfl⟩ := H
      go_enter Tryz.func41, Tryz.ntmps41
      go_wp2_with (first | ((with_reducible refine gate_dst (N := 2) rfl ?_); refine bx_ (N := 2) (cs := #[.int .u8 0, .int .u16 0, .int .u32 0, .int .u32 0, .string (⟨#[]⟩ : ByteArray)]) (t := 31) ?_; intro gb224 hg w31 hbox hb; have BK224 := ak_ (hbox); have GW224 := ge_ hg; have GE224 := ge_ hg; replace HB := hb_ hb; clear hb hbox hg) | ((with_reducible refine gate_callee (f := 44) rfl ?_); refine gl_ (some 24) Tryz.func44 #[.string (a0.extract 1 a0.size), .int .i64 2] ?_; (with_reducible refine (cambiumref01_TakeNumber.calls k (a0.extract 1 a0.size) 2 t225 t226 t227 _ A6.out).mono ?_); rintro e w' ⟨rfl, ⟨nd, rfl⟩⟩; refine ⟨_, rfl, ?_⟩; (try (rw [drewN_self w31]; generalize hq_ : World.drewN w31 _ = w31; have n0_ : Aside0 (w31.heap[gb224]? = some (.cells #[.int .u8 0, .int .u16 0, .int .u32 0, .int .u32 0, .string (⟨#[]⟩ : ByteArray)] 31 (0, 0))) := ⟨by rw [← hq_]; exact (bk_ BK224)⟩; have n1_ : Aside0 (Below w.heap.size w w31) := ⟨by rw [← hq_]; exact bel_⟩; clear BK224 HB hq_; have BK224 := n0_; have HB := n1_; clear n0_ n1_))) | ((with_reducible refine gate_callee (f := 44) rfl ?_); refine gl_ (some 31) Tryz.func44 #[.string (a0.extract 3 a0.size), .int .i64 4] ?_; (with_reducible refine (cambiumref01_TakeNumber.calls k (a0.extract 3 a0.size) 4 t228 t229 t230 _ A8.out).mono ?_); rintro e w' ⟨rfl, ⟨nd, rfl⟩⟩; refine ⟨_, rfl, ?_⟩; (try (rw [drewN_self w31]; generalize hq_ : World.drewN w31 _ = w31; have n0_ : Aside0 (w31.heap[gb224]? = some (.cells #[.int .u8 0, .int .u16 0, .int .u32 0, .int .u32 0, .string (⟨#[]⟩ : ByteArray)] 31 (0, 0))) := ⟨by rw [← hq_]; exact (bk_ BK224)⟩; have n1_ : Aside0 (Below w.heap.size w w31) := ⟨by rw [← hq_]; exact bel_⟩; clear BK224 HB hq_; have BK224 := n0_; have HB := n1_; clear n0_ n1_))) | ((with_reducible refine gate_callee (f := 44) rfl ?_); refine gl_ (some 38) Tryz.func44 #[.string (a0.extract 7 a0.size), .int .i64 4] ?_; (with_reducible refine (cambiumref01_TakeNumber.calls k (a0.extract 7 a0.size) 4 t231 t232 t233 _ A10.out).mono ?_); rintro e w' ⟨rfl, ⟨nd, rfl⟩⟩; refine ⟨_, rfl, ?_⟩; (try (rw [drewN_self w31]; generalize hq_ : World.drewN w31 _ = w31; have n0_ : Aside0 (w31.heap[gb224]? = some (.cells #[.int .u8 0, .int .u16 0, .int .u32 0, .int .u32 0, .string (⟨#[]⟩ : ByteArray)] 31 (0, 0))) := ⟨by rw [← hq_]; exact (bk_ BK224)⟩; have n1_ : Aside0 (Below w.heap.size w w31) := ⟨by rw [← hq_]; exact bel_⟩; clear BK224 HB hq_; have BK224 := n0_; have HB := n1_; clear n0_ n1_))) | ((with_reducible refine gate_callee (f := 68) rfl ?_); refine gl_ (some 44) Tryz.func68 #[.string t232] ?_; (with_reducible refine (cambiumref01_TakeText.calls k t232 t234 t235 t236 _ A11.out).mono ?_); rintro e w' ⟨rfl, ⟨nd, rfl⟩⟩; refine ⟨_, rfl, ?_⟩; (try (rw [drewN_self w31]; generalize hq_ : World.drewN w31 _ = w31; have n0_ : Aside0 (w31.heap[gb224]? = some (.cells #[.int .u8 0, .int .u16 0, .int .u32 0, .int .u32 0, .string (⟨#[]⟩ : ByteArray)] 31 (0, 0))) := ⟨by rw [← hq_]; exact (bk_ BK224)⟩; have n1_ : Aside0 (Below w.heap.size w w31) := ⟨by rw [← hq_]; exact bel_⟩; clear BK224 HB hq_; have BK224 := n0_; have HB := n1_; clear n0_ n1_)); have p13 : 0 ≤ (0 : Int) := (by omega); have q13 : 0 < a0.size := (by have : (0 : Int) < (a0.size : Int) := of_decide_eq_true (by first | (with_reducible assumption) | assumption); omega); have hx13 : ∀ h : 0 < a0.size, ((a0[0]'h).toNat : Int) = bt a0 0 := bt_at a0 0; clear p13; have qi13 : (0 < (a0.size : Int)) = True := eq_true (of_decide_eq_true (by first | (with_reducible assumption) | assumption)); replace q13 := eq_true q13) | ((with_reducible refine gate_dst (N := 16) rfl ?_); refine bx_ (N := 16) (cs := #[.int .u8 0, .int .u16 0, .int .u32 0, .int .u32 0, .string (⟨#[]⟩ : ByteArray)]) (t := 31) ?_; intro gb237 hg w32 hbox hb; have BK237 := ak_ (hbox); have GW237 := ge_ hg; have GE237 := ge_ hg; have NB224_237 := nl_ BK224 hg; have NB237_224 := ng_ BK224 hg; replace BK224 := kb_ BK224 hb; replace HB := hb_ hb; clear hb hbox hg; have hnb33 := NB237_224.out; have hnc33 := NB224_237.out; obtain ⟨hcz34_0, hcz34_1, hcz34_2, hcz34_3, hcz34_4⟩ := cl5_ BK237; obtain ⟨hfz34_0, hfz34_1, hfz34_2, hfz34_3, hfz34_4⟩ := fz5_ BK237; obtain ⟨hcz35_0, hcz35_1, hcz35_2, hcz35_3, hcz35_4⟩ := cl5_ BK224; obtain ⟨hfz35_0, hfz35_1, hfz35_2, hfz35_3, hfz35_4⟩ := fz5_ BK224))
      refine bodyPost_ret (results_ct rfl _ _ gb224 31 #[.int .u8 0, .int .u16 0, .int .u32 0, .int .u32 0, .string (⟨#[]⟩ : ByteArray)] (0, 0) _ rfl (bs_) Tryz.underlying31 rfl (by kernel_rfl)) rfl ?_
      exact ⟨by first | rfl | (simp [errW_none, errW_some] <;> rfl) | (simp [*, errW_none, errW_some] <;> rfl), bel_⟩
     rw [if_neg c14] at H
     have c14b0 : (t236 == 0) = false := beq_eq_false_iff_ne.mpr c14
     have c14b1 : (t236 != 0) = true := bne_iff_ne.mpr c14
     simp only [Option.some.injEq, Prod.mk.injEq] at H
     obtain ⟨rfl, rfl, rfl, rfl, rfl, rfl⟩ := H
     go_enter Tryz.func41, Tryz.ntmps41
     go_wp2_with (first | ((with_reducible refine gate_dst (N := 2) rfl ?_); refine bx_ (N := 2) (cs := #[.int .u8 0, .int .u16 0, .int .u32 0, .int .u32 0, .string (⟨#[]⟩ : ByteArray)]) (t := 31) ?_; intro gb224 hg w36 hbox hb; have BK224 := ak_ (hbox); have GW224 := ge_ hg; have GE224 := ge_ hg; replace HB := hb_ hb; clear hb hbox hg) | ((with_reducible refine gate_callee (f := 44) rfl ?_); refine gl_ (some 24) Tryz.func44 #[.string (a0.extract 1 a0.size), .int .i64 2] ?_; (with_reducible refine (cambiumref01_TakeNumber.calls k (a0.extract 1 a0.size) 2 t225 t226 t227 _ A6.out).mono ?_); rintro e w' ⟨rfl, ⟨nd, rfl⟩⟩; refine ⟨_, rfl, ?_⟩; (try (rw [drewN_self w36]; generalize hq_ : World.drewN w36 _ = w36; have n0_ : Aside0 (w36.heap[gb224]? = some (.cells #[.int .u8 0, .int .u16 0, .int .u32 0, .int .u32 0, .string (⟨#[]⟩ : ByteArray)] 31 (0, 0))) := ⟨by rw [← hq_]; exact (bk_ BK224)⟩; have n1_ : Aside0 (Below w.heap.size w w36) := ⟨by rw [← hq_]; exact bel_⟩; clear BK224 HB hq_; have BK224 := n0_; have HB := n1_; clear n0_ n1_))) | ((with_reducible refine gate_callee (f := 44) rfl ?_); refine gl_ (some 31) Tryz.func44 #[.string (a0.extract 3 a0.size), .int .i64 4] ?_; (with_reducible refine (cambiumref01_TakeNumber.calls k (a0.extract 3 a0.size) 4 t228 t229 t230 _ A8.out).mono ?_); rintro e w' ⟨rfl, ⟨nd, rfl⟩⟩; refine ⟨_, rfl, ?_⟩; (try (rw [drewN_self w36]; generalize hq_ : World.drewN w36 _ = w36; have n0_ : Aside0 (w36.heap[gb224]? = some (.cells #[.int .u8 0, .int .u16 0, .int .u32 0, .int .u32 0, .string (⟨#[]⟩ : ByteArray)] 31 (0, 0))) := ⟨by rw [← hq_]; exact (bk_ BK224)⟩; have n1_ : Aside0 (Below w.heap.size w w36) := ⟨by rw [← hq_]; exact bel_⟩; clear BK224 HB hq_; have BK224 := n0_; have HB := n1_; clear n0_ n1_))) | ((with_reducible refine gate_callee (f := 44) rfl ?_); refine gl_ (some 38) Tryz.func44 #[.string (a0.extract 7 a0.size), .int .i64 4] ?_; (with_reducible refine (cambiumref01_TakeNumber.calls k (a0.extract 7 a0.size) 4 t231 t232 t233 _ A10.out).mono ?_); rintro e w' ⟨rfl, ⟨nd, rfl⟩⟩; refine ⟨_, rfl, ?_⟩; (try (rw [drewN_self w36]; generalize hq_ : World.drewN w36 _ = w36; have n0_ : Aside0 (w36.heap[gb224]? = some (.cells #[.int .u8 0, .int .u16 0, .int .u32 0, .int .u32 0, .string (⟨#[]⟩ : ByteArray)] 31 (0, 0))) := ⟨by rw [← hq_]; exact (bk_ BK224)⟩; have n1_ : Aside0 (Below w.heap.size w w36) := ⟨by rw [← hq_]; exact bel_⟩; clear BK224 HB hq_; have BK224 := n0_; have HB := n1_; clear n0_ n1_))) | ((with_reducible refine gate_callee (f := 68) rfl ?_); refine gl_ (some 44) Tryz.func68 #[.string t232] ?_; (with_reducible refine (cambiumref01_TakeText.calls k t232 t234 t235 t236 _ A11.out).mono ?_); rintro e w' ⟨rfl, ⟨nd, rfl⟩⟩; refine ⟨_, rfl, ?_⟩; (try (rw [drewN_self w36]; generalize hq_ : World.drewN w36 _ = w36; have n0_ : Aside0 (w36.heap[gb224]? = some (.cells #[.int .u8 0, .int .u16 0, .int .u32 0, .int .u32 0, .string (⟨#[]⟩ : ByteArray)] 31 (0, 0))) := ⟨by rw [← hq_]; exact (bk_ BK224)⟩; have n1_ : Aside0 (Below w.heap.size w w36) := ⟨by rw [← hq_]; exact bel_⟩; clear BK224 HB hq_; have BK224 := n0_; have HB := n1_; clear n0_ n1_)); have p13 : 0 ≤ (0 : Int) := (by omega); have q13 : 0 < a0.size := (by have : (0 : Int) < (a0.size : Int) := of_decide_eq_true (by first | (with_reducible assumption) | assumption); omega); have hx13 : ∀ h : 0 < a0.size, ((a0[0]'h).toNat : Int) = bt a0 0 := bt_at a0 0; clear p13; have qi13 : (0 < (a0.size : Int)) = True := eq_true (of_decide_eq_true (by first | (with_reducible assumption) | assumption)); replace q13 := eq_true q13) | ((with_reducible refine gate_dst (N := 16) rfl ?_); refine bx_ (N := 16) (cs := #[.int .u8 0, .int .u16 0, .int .u32 0, .int .u32 0, .string (⟨#[]⟩ : ByteArray)]) (t := 31) ?_; intro gb237 hg w37 hbox hb; have BK237 := ak_ (hbox); have GW237 := ge_ hg; have GE237 := ge_ hg; have NB224_237 := nl_ BK224 hg; have NB237_224 := ng_ BK224 hg; replace BK224 := kb_ BK224 hb; replace HB := hb_ hb; clear hb hbox hg; have hnb38 := NB237_224.out; have hnc38 := NB224_237.out; obtain ⟨hcz39_0, hcz39_1, hcz39_2, hcz39_3, hcz39_4⟩ := cl5_ BK237; obtain ⟨hfz39_0, hfz39_1, hfz39_2, hfz39_3, hfz39_4⟩ := fz5_ BK237; obtain ⟨hcz40_0, hcz40_1, hcz40_2, hcz40_3, hcz40_4⟩ := cl5_ BK224; obtain ⟨hfz40_0, hfz40_1, hfz40_2, hfz40_3, hfz40_4⟩ := fz5_ BK224))
     refine bodyPost_ret (results_ct rfl _ _ gb224 31 #[.int .u8 0, .int .u16 0, .int .u32 0, .int .u32 0, .string (⟨#[]⟩ : ByteArray)] (0, 0) _ rfl (bs_) Tryz.underlying31 rfl (by kernel_rfl)) rfl ?_
     exact ⟨by first | rfl | (simp [errW_none, errW_some] <;> rfl) | (simp [*, errW_none, errW_some] <;> rfl), bel_⟩
    rw [if_neg c12] at H
    exact absurd H (by simp)
   rw [if_neg c9] at H
   exact absurd H (by simp)
  rw [if_neg c7] at H
  exact absurd H (by simp)
 rw [if_neg c5] at H
 exact absurd H (by simp)
end Go.Proofs.YtpnmajblhgnkoaaGreat.Z
end

section
namespace Go.Proofs.YtpnmajblhgnkoaaGreat.Z
open Go.Proofs.YtpnmajblhgnkoaaGreat.PM
theorem rtext_f (a : ByteArray) (hs : a.size ≤ 9223372036854775807) : Ev (fun k => cambiumref01_TakeText.f k a) (ba (textS a.data.toList).1, ba (textS a.data.toList).2.1, (textS a.data.toList).2.2) := by
  unfold cambiumref01_TakeText.f
  have hz := size_len a
  refine Ev.bind (rnum_f a 2 (by decide) (by decide)) ?_
  unfold ba3 takeS textS
  by_cases h : a.data.toList.length < 2
  · simp only [if_pos h]
    refine Ev.ifn (by decide) (Ev.const ?_)
    rfl
  · simp only [if_neg h]
    refine Ev.ifp trivial ?_
    have hd : (a.data.toList.drop 2).length = a.data.toList.length - 2 := by simp
    rw [ba_size, u64w (by omega) (by omega)]
    by_cases hn : (a.data.toList.drop 2).length < num (a.data.toList.take 2)
    · rw [if_pos hn]
      exact Ev.ifp (by omega) (Ev.const rfl)
    · rw [if_neg hn]
      refine Ev.ifn (by omega) (Ev.ifp (by omega) (Ev.ifp (by omega) (Ev.const ?_)))
      rw [Int.toNat_natCast, show (a.data.toList.drop 2).length = (ba (a.data.toList.drop 2)).size from (ba_size _).symm, ext_end, ext_front, ba_data]
theorem rText_f (a : ByteArray) (hs : a.size ≤ 65535) : Ev (fun k => cambiumref01_Text.f k a) (ba (be 2 a.data.toList.length ++ a.data.toList), 0) := by
  unfold cambiumref01_Text.f
  have hz := size_len a
  refine Ev.ifn (by omega) (Ev.bind (bytes_f (a.size : Int) 2 (by decide) (by omega) (by omega)) ?_)
  refine Ev.ifp (by rw [ba_size, be_len]; omega) (Ev.const ?_)
  rw [Int.toNat_natCast, hz, ← ba_app, data_ba]
theorem target_l0 (a : ByteArray) (hs : a.size ≤ 9223372036854775807) : ∀ d i : Nat, a.data.toList.length = i + d →
    Ev (fun k => cambiumref12_target.l0 k a (i : Int)) (decide (0 ∉ a.data.toList.drop i) && (decide (a.data.toList ≠ []) && decide (a.data.toList.length ≤ 64)))
  | 0, i, hi => by
    refine Ev.step (fun k => by rw [cambiumref12_target.l0]) ?_
    have hz := size_len a
    refine Ev.ifn (by omega) ?_
    rw [List.drop_of_length_le (by omega), ByteArray.toList_eq]
    by_cases h : a.data.toList = []
    · exact Ev.ifp h (Ev.const (by simp [h]))
    · refine Ev.ifn h (Ev.const ?_)
      rw [show decide ((a.size : Int) ≤ 64) = decide (a.data.toList.length ≤ 64) from decide_eq_decide.2 (by omega)]
      simp [h]
  | d + 1, i, hi => by
    refine Ev.step (fun k => by rw [cambiumref12_target.l0]) ?_
    have hz := size_len a
    have hlt : i < a.data.toList.length := by omega
    have e3 : wrap64 ((i : Int) + 1) = ((i + 1 : Nat) : Int) := by rw [w64 (by omega) (by omega)]; omega
    refine Ev.ifp (by omega) (Ev.ifp (by omega) ?_)
    rw [bt_get a i hlt, e3, List.drop_eq_getElem_cons hlt]
    have e0 := byte_eq (a.data.toList[i]) 0 (by decide)
    by_cases h0 : ((a.data.toList[i]).toNat : Int) = 0
    · refine Ev.ifp h0 (Ev.const ?_)
      have : a.data.toList[i] = 0 := e0.1 h0
      rw [this]
      simp
    · refine Ev.ifn h0 (Ev.val (target_l0 a hs d (i + 1) (by omega)) ?_)
      have n0 : a.data.toList[i] ≠ 0 := fun e => h0 (e0.2 e)
      congr 1
      generalize a.data.toList[i] = b at *
      generalize a.data.toList.drop (i + 1) = r at *
      simp only [List.mem_cons, Ne.symm n0, false_or]
theorem target_f (a : ByteArray) (hs : a.size ≤ 9223372036854775807) : Ev (fun k => cambiumref12_target.f k a) (decide (a.data.toList ≠ [] ∧ a.data.toList.length ≤ 64 ∧ 0 ∉ a.data.toList)) := by
  unfold cambiumref12_target.f
  refine Ev.val (target_l0 a hs a.data.toList.length 0 (by omega)) ?_
  rw [List.drop_zero, Bool.eq_iff_iff]
  simp only [Bool.and_eq_true, decide_eq_true_eq]
  exact ⟨fun h => ⟨h.2.1, h.2.2, h.1⟩, fun h => ⟨h.2.2, h.1, h.2.1⟩⟩
theorem rcheck_f (k m l s : Int) (a : ByteArray) (hs : 0 ≤ s ∧ s < 4294967296) (ha : a.size ≤ 9223372036854775807) : Ev (fun r => cambiumref12_Check.f r k m l s a) (if okN k l s a.data.toList = true then 0 else 4) := by
  unfold cambiumref12_Check.f
  rw [ByteArray.toList_eq]
  have hz := size_len a
  have yes : (k = 1 ∧ l = 1 ∧ s = 0 ∧ a.data.toList = [] ∨ k = 2 ∧ 0 < l ∧ s ≤ 65536 ∧ a.data.toList = [] ∨ k = 3 ∧ 0 < l ∧ a.data.toList ≠ [] ∧ a.data.toList.length ≤ 64 ∧ 0 ∉ a.data.toList ∧ s = a.data.toList.length) → (if okN k l s a.data.toList = true then (0 : Int) else 4) = 0 := fun h => if_pos (by unfold okN; exact decide_eq_true h)
  have no : ¬ (k = 1 ∧ l = 1 ∧ s = 0 ∧ a.data.toList = [] ∨ k = 2 ∧ 0 < l ∧ s ≤ 65536 ∧ a.data.toList = [] ∨ k = 3 ∧ 0 < l ∧ a.data.toList ≠ [] ∧ a.data.toList.length ≤ 64 ∧ 0 ∉ a.data.toList ∧ s = a.data.toList.length) → (if okN k l s a.data.toList = true then (0 : Int) else 4) = 4 := fun h => if_neg (fun e => h (by unfold okN at e; exact of_decide_eq_true e))
  by_cases h1 : k = 1
  · refine Ev.ifp h1 ?_
    by_cases h2 : l = 1
    · refine Ev.ifp h2 ?_
      by_cases h3 : s = 0
      · refine Ev.ifp h3 ?_
        by_cases h4 : a.data.toList = []
        · exact Ev.ifp h4 (Ev.const (congrArg some (yes (.inl ⟨h1, h2, h3, h4⟩)).symm))
        · exact Ev.ifn h4 (Ev.const (congrArg some (no (fun h => by rcases h with h | h | h <;> first | omega | exact h4 h.2.2.2)).symm))
      · exact Ev.ifn h3 (Ev.const (congrArg some (no (fun h => by omega)).symm))
    · exact Ev.ifn h2 (Ev.const (congrArg some (no (fun h => by omega)).symm))
  · refine Ev.ifn h1 ?_
    by_cases h2 : k = 2
    · refine Ev.ifp h2 ?_
      by_cases h3 : l ≥ 1
      · refine Ev.ifp h3 ?_
        by_cases h5 : s ≤ 65536
        · refine Ev.ifp h5 ?_
          by_cases h4 : a.data.toList = []
          · exact Ev.ifp h4 (Ev.const (congrArg some (yes (.inr (.inl ⟨h2, by omega, h5, h4⟩))).symm))
          · exact Ev.ifn h4 (Ev.const (congrArg some (no (fun h => by rcases h with h | h | h <;> first | omega | exact h4 h.2.2.2)).symm))
        · exact Ev.ifn h5 (Ev.const (congrArg some (no (fun h => by omega)).symm))
      · exact Ev.ifn h3 (Ev.const (congrArg some (no (fun h => by omega)).symm))
    · refine Ev.ifn h2 ?_
      by_cases h3 : k = 3
      · refine Ev.ifp h3 ?_
        by_cases h4 : l ≥ 1
        · refine Ev.ifp h4 (Ev.bind (target_f a ha) ?_)
          by_cases ht : a.data.toList ≠ [] ∧ a.data.toList.length ≤ 64 ∧ 0 ∉ a.data.toList
          · refine Ev.ifp (by simpa using ht) ?_
            by_cases h5 : s = (a.size : Int) % 4294967296
            · exact Ev.ifp h5 (Ev.const (congrArg some (yes (.inr (.inr ⟨h3, by omega, ht.1, ht.2.1, ht.2.2, by omega⟩))).symm))
            · exact Ev.ifn h5 (Ev.const (congrArg some (no (fun h => by omega)).symm))
          · exact Ev.ifn (by simpa using ht) (Ev.const (congrArg some (no (fun h => by rcases h with h | h | h <;> first | omega | exact ht ⟨h.2.2.1, h.2.2.2.1, h.2.2.2.2.1⟩)).symm))
        · exact Ev.ifn h4 (Ev.const (congrArg some (no (fun h => by omega)).symm))
      · exact Ev.ifn h3 (Ev.const (congrArg some (no (fun h => by omega)).symm))
theorem rencode_f (k m l s : Int) (a : ByteArray) (hk : 0 ≤ k ∧ k < 256) (hm : 0 ≤ m ∧ m < 65536) (hl : 0 ≤ l ∧ l < 4294967296) (hs : 0 ≤ s ∧ s < 4294967296) (ha : a.size ≤ 9223372036854775807) :
    Ev (fun r => cambiumref12_Encode.f r k m l s a) (ba (encS k m l s a.data.toList).1, (encS k m l s a.data.toList).2) := by
  unfold cambiumref12_Encode.f encS
  have hz := size_len a
  refine Ev.bind (rcheck_f k m l s a hs ha) ?_
  by_cases h : okN k l s a.data.toList = true
  · rw [if_pos h, if_pos h]
    have h64 := okN_size h
    refine Ev.ifp rfl (Ev.bind (rText_f a (by omega)) (Ev.bind (bytes_f k 1 (by decide) hk.1 (by omega)) (Ev.bind (bytes_f m 2 (by decide) hm.1 (by omega)) ?_)))
    refine Ev.ifp (by simp only [ba_size, be_len]; omega) (Ev.bind (bytes_f l 4 (by decide) hl.1 (by omega)) ?_)
    refine Ev.ifp (by simp only [ba_app, ba_size, List.length_append, be_len]; omega) (Ev.bind (bytes_f s 4 (by decide) hs.1 (by omega)) ?_)
    refine Ev.ifp (by simp only [ba_app, ba_size, List.length_append, be_len]; omega) (Ev.ifp (by simp only [ba_app, ba_size, List.length_append, be_len]; omega) (Ev.const ?_))
    unfold enc
    simp only [ba_app, List.append_assoc]
  · rw [if_neg h, if_neg h]
    exact Ev.ifn (by decide) (Ev.const rfl)
theorem rdecode_f (a : ByteArray) (hs : a.size ≤ 9223372036854775807) : Ev (fun r => cambiumref12_Decode.f r a) (baI (decS a.data.toList)) := by
  unfold cambiumref12_Decode.f
  have hz := size_len a
  have none_ : ¬ (whole a.data.toList ∧ okN (f1 a.data.toList) (f3 a.data.toList) (f4 a.data.toList) (d13 a.data.toList) = true) → baI (decS a.data.toList) = (0, 0, 0, 0, ⟨#[]⟩, 4) := by
    intro h
    unfold decS
    rw [if_neg h]
    rfl
  have hd11 : (d11 a.data.toList).length = a.data.toList.length - 11 := by unfold d11 d7 d3; simp only [List.length_drop]; omega
  have hd7 : (d7 a.data.toList).length = a.data.toList.length - 7 := by unfold d7 d3; simp only [List.length_drop]; omega
  have hd3 : (d3 a.data.toList).length = a.data.toList.length - 3 := by unfold d3; simp only [List.length_drop]; omega
  by_cases h11 : a.data.toList.length < 11
  · rw [none_ (fun h => by have := h.1.1; omega)]
    exact Ev.ifp (by omega) (Ev.const rfl)
  · have x1 : (a.extract 1 a.size).data.toList = a.data.toList.drop 1 := by rw [ext_end, ba_data]
    have x3 : (a.extract 3 a.size).data.toList = d3 a.data.toList := by rw [ext_end, ba_data]; unfold d3; rw [List.drop_drop]
    have x7 : (a.extract 7 a.size).data.toList = d7 a.data.toList := by rw [ext_end, ba_data]; unfold d7 d3; rw [List.drop_drop, List.drop_drop]
    have t2 := rnum_f (a.extract 1 a.size) 2 (by decide) (by decide)
    rw [x1] at t2
    have t3 := rnum_f (a.extract 3 a.size) 4 (by decide) (by decide)
    rw [x3] at t3
    have t4 := rnum_f (a.extract 7 a.size) 4 (by decide) (by decide)
    rw [x7] at t4
    have e2 : takeS 2 (a.data.toList.drop 1) = (f2 a.data.toList, d3 a.data.toList, 0) := by unfold takeS; rw [if_neg (by simp; omega), if_neg (by simp; omega)]; rfl
    have e3 : takeS 4 (d3 a.data.toList) = (f3 a.data.toList, d7 a.data.toList, 0) := by unfold takeS; rw [if_neg (by omega), if_neg (by omega)]; rfl
    have e4 : takeS 4 (d7 a.data.toList) = (f4 a.data.toList, d11 a.data.toList, 0) := by unfold takeS; rw [if_neg (by omega), if_neg (by omega)]; rfl
    rw [e2] at t2
    rw [e3] at t3
    rw [e4] at t4
    have t5 := rtext_f (ba (d11 a.data.toList)) (by rw [ba_size]; omega)
    rw [ba_data] at t5
    refine Ev.ifn (by omega) (Ev.ifp (by omega) (Ev.bind t2 (Ev.ifp (by omega) (Ev.bind t3 (Ev.ifp (by omega) (Ev.bind t4 (Ev.bind t5 (Ev.ifp (by omega) ?_))))))))
    have hb0 : bt a 0 = f1 a.data.toList := by
      have hlt : 0 < a.data.toList.length := by omega
      have hb := bt_get a 0 hlt
      simp only [Int.ofNat_zero] at hb
      rw [show bt a 0 = ((a.data.toList[0]).toNat : Int) from hb]
      have hf : ∀ (l : List UInt8) (h : 0 < l.length), (((l[0]).toNat : Nat) : Int) = (num (l.take 1) : Int) := by
        intro l h
        match l, h with
        | b :: r, _ => simp [num]
      exact hf _ hlt
    unfold textS ba3
    by_cases h2 : (d11 a.data.toList).length < 2
    · simp only [if_pos h2]
      rw [none_ (fun h => by have := h.1.1; omega)]
      exact Ev.ifn (by decide) (Ev.const rfl)
    · simp only [if_neg h2]
      by_cases hn : ((d11 a.data.toList).drop 2).length < num ((d11 a.data.toList).take 2)
      · simp only [if_pos hn]
        rw [none_ (fun h => by have := h.1.2; rw [List.length_drop] at hn; omega)]
        exact Ev.ifn (by decide) (Ev.const rfl)
      · simp only [if_neg hn]
        refine Ev.ifp trivial ?_
        rw [ba_toList]
        by_cases hr : ((d11 a.data.toList).drop 2).drop (num ((d11 a.data.toList).take 2)) = []
        · refine Ev.ifp hr ?_
          have hlen : ((d11 a.data.toList).drop 2).length = num ((d11 a.data.toList).take 2) := by
            have := congrArg List.length hr
            rw [List.length_drop] at this
            simp at this hn
            simp
            omega
          have hw : whole a.data.toList := by
            refine ⟨by omega, ?_⟩
            rw [List.length_drop] at hlen
            omega
          have ht : ((d11 a.data.toList).drop 2).take (num ((d11 a.data.toList).take 2)) = d13 a.data.toList := by
            rw [← hlen, List.take_length]; rfl
          obtain ⟨r1, r2, r3, r4⟩ := f_range _ hw
          rw [ht, hb0, u16w r2.1 r2.2, Int.emod_eq_of_lt r3.1 r3.2, Int.emod_eq_of_lt r4.1 r4.2]
          have hc := rcheck_f (f1 a.data.toList) (f2 a.data.toList) (f3 a.data.toList) (f4 a.data.toList) (ba (d13 a.data.toList)) r4 (by rw [ba_size]; unfold d13; rw [List.length_drop]; omega)
          rw [ba_data] at hc
          refine Ev.bind hc ?_
          by_cases hok : okN (f1 a.data.toList) (f3 a.data.toList) (f4 a.data.toList) (d13 a.data.toList) = true
          · rw [if_pos hok]
            refine Ev.ifp rfl (Ev.const ?_)
            unfold decS
            rw [if_pos ⟨hw, hok⟩]
            rfl
          · rw [if_neg hok, none_ (fun h => hok h.2)]
            exact Ev.ifn (by decide) (Ev.const rfl)
        · rw [none_ (fun h => hr (List.drop_eq_nil_of_le (by have := h.1.2; rw [List.length_drop]; omega)))]
          exact Ev.ifn hr (Ev.const rfl)
end Go.Proofs.YtpnmajblhgnkoaaGreat.Z
end

section
namespace Go.Proofs.YtpnmajblhgnkoaaGreat.Z
attribute [local go_sem] max2_int min2_int max_two min_two max_three min_three max_four min_four   -- for this text's walks alone
def cambiumref14_inode.l0 : Nat → ByteArray → List (S56) → Int → Int → Option (Int × Int × Int × Int × ByteArray × Bool)
 | 0, _, _, _, _ => none
 | k + 1, x6, x18, x19, x20 => if x20 < x19 then (if 0 ≤ x20 then (if x20 < (x18.length : Int) then (if ((rd_T56 x18 x20).f0).toList = x6.toList then (if x6.toList = ([] : List UInt8) then (cambiumref14_inode.l0 k x6 x18 x19 (wrap64 (x20 + 1))) else ((cambiumref12_Decode.f k ((rd_T56 x18 x20).f1)).bind fun bt244 => (some (bt244.1, bt244.2.1, bt244.2.2.1, bt244.2.2.2.1, bt244.2.2.2.2.1, (bt244.2.2.2.2.2 == 0))))) else (cambiumref14_inode.l0 k x6 x18 x19 (wrap64 (x20 + 1)))) else (none)) else (none)) else (some (0, 0, 0, 0, (⟨#[]⟩ : ByteArray), false))
def cambiumref14_inode.f (k : Nat) (l0 : List (S56)) (a1 : Int) : Option (Int × Int × Int × Int × ByteArray × Bool) := (cambiumref12_Key.f k 1 a1 (⟨#[]⟩ : ByteArray) 0).bind fun bt240 => (cambiumref14_inode.l0 k bt240.1 l0 (l0.length : Int) 0)
theorem cambiumref14_inode.mono_l : ∀ k, (∀ y0 y1 y2 y3, LeO (cambiumref14_inode.l0 k y0 y1 y2 y3) (cambiumref14_inode.l0 (k + 1) y0 y1 y2 y3))
 | 0 => by intros; intro r h; simp [cambiumref14_inode.l0] at h
 | k + 1 => by
  have ih0 := cambiumref14_inode.mono_l k
  intros
  unfold cambiumref14_inode.l0
  repeat' (first | (with_reducible first | exact ih0 _ _ _ _ | exact cambiumref12_Decode.mono _ _ | exact cambiumref12_Key.mono _ _ _ _ _ | exact LeO.refl _ | exact LeO.none _ | refine LeO.ite ?_ ?_ | refine LeO.bind ?_ (fun _ => ?_)))
theorem cambiumref14_inode.mono : ∀ a0 a1 k, LeO (cambiumref14_inode.f k a0 a1) (cambiumref14_inode.f (k + 1) a0 a1) := by
 intro a0 a1 k
 have ih0 := cambiumref14_inode.mono_l k
 unfold cambiumref14_inode.f
 repeat' (first | (with_reducible first | exact ih0 _ _ _ _ | exact cambiumref12_Decode.mono _ _ | exact cambiumref12_Key.mono _ _ _ _ _ | exact LeO.refl _ | exact LeO.none _ | refine LeO.ite ?_ ?_ | refine LeO.bind ?_ (fun _ => ?_)))
set_option maxHeartbeats 64000000 in
set_option maxRecDepth 100000 in
theorem cambiumref14_inode.calls (k : Nat) (A0 : Option Addr) (c0 : Nat) (l0 : List (S56)) (a1 : Int) (r1 : Int) (r2 : Int) (r3 : Int) (r4 : Int) (r5 : ByteArray) (r6 : Bool) (w : World) (hr0 : Kd.C k56 w A0 l0.length l0) (hc0 : l0.length ≤ c0) (h : cambiumref14_inode.f k l0 a1 = some (r1, r2, r3, r4, r5, r6)) :
  Calls Tryz.prog 21 #[.slice A0 l0.length c0, .int .u32 a1] w fun e w' => e = .returned (.tuple #[.agg #[.int .u8 r1, .int .u16 r2, .int .u32 r3, .int .u32 r4, .string r5], .bool r6]) ∧ Below w.heap.size w w' := by
 have hu31 := Tryz.underlying31
 have hu59 := Tryz.underlying59
 have hu56 := Tryz.underlying56
 have HR0 := ak_ hr0
 have HC0 := ak_ hc0
 clear hr0 hc0
 have HB := ak_ (Below.refl w.heap.size w)
 have H : ((cambiumref12_Key.f k 1 a1 (⟨#[]⟩ : ByteArray) 0).bind fun bt240 => (cambiumref14_inode.l0 k bt240.1 l0 (l0.length : Int) 0)) = some (r1, r2, r3, r4, r5, r6) := h
 clear h
 replace H := Option.bind_eq_some_iff.mp H
 obtain ⟨⟨t240, t241⟩, A30, H⟩ := H
 try dsimp only at H
 have A3 := ak_ A30
 clear A30
 have H' := ak_ H
 clear H
 go_enter Tryz.func21, Tryz.ntmps21
 go_wp2_with (first | ((with_reducible refine gate_dst (N := 4) rfl ?_); refine bx_ (N := 4) (cs := #[.int .u8 0, .int .u16 0, .int .u32 0, .int .u32 0, .string (⟨#[]⟩ : ByteArray)]) (t := 31) ?_; intro gb239 hg w4 hbox hb; have BK239 := ak_ (hbox); have GW239 := ge_ hg; have GE239 := ge_ hg; replace HB := hb_ hb; clear hb hbox hg) | ((with_reducible refine gate_callee (f := 34) rfl ?_); refine gl_ (some 15) Tryz.func34 #[.agg #[.int .u8 1, .int .u32 a1, .string (⟨#[]⟩ : ByteArray), .int .u32 0]] ?_; (with_reducible refine (cambiumref12_Key.calls k 1 a1 (⟨#[]⟩ : ByteArray) 0 t240 t241 _ A3.out).mono ?_); rintro e w5 ⟨rfl, hb⟩; refine ⟨_, rfl, ?_⟩; replace BK239 := kb_ BK239 hb; replace HB := hb_ hb; (try clear hb)))
 go_loopg [20] k (fun kq v20 w' => ∃ (x20_1 : Int) (x240000_1 : Int) (x240001_1 : Int) (x240002_1 : Int) (x240003_1 : Int) (x240004_1 : ByteArray), v20 = .int .i64 x20_1 ∧ Aside0 (cambiumref14_inode.l0 kq t240 l0 (l0.length : Int) x20_1 = some (r1, r2, r3, r4, r5, r6)) ∧ Aside0 (kq ≤ k) ∧ Aside0 (w'.heap[gb239]? = some (.cells #[.int .u8 x240000_1, .int .u16 x240001_1, .int .u32 x240002_1, .int .u32 x240003_1, .string x240004_1] 31 (0, 0))) ∧ Aside0 (Below w.heap.size w w'))
 case atStart => exact ⟨(0), (0), (0), (0), (0), ((⟨#[]⟩ : ByteArray)), (by first | rfl | (simp; done) | (simp [*]; done)), H', ⟨Nat.le_refl _⟩, ⟨bk_ BK239⟩, ⟨bel_⟩⟩
 case round =>
  clear H'
  try clear c2
  try clear p2
  try clear c3
  obtain ⟨x20_1, x240000_1, x240001_1, x240002_1, x240003_1, x240004_1, rfl, HA, HK1, BK239, HB⟩ := hrel
  cases gk with
  | zero => exact absurd HA.out (by simp [cambiumref14_inode.l0])
  | succ k1 =>
   have H := HA.out
   clear HA
   simp only [cambiumref14_inode.l0] at H
   refine Or.elim (Classical.em (x20_1 < (l0.length : Int))) (fun c6 => ?p1_) (fun c6 => ?n1_)
   case' p1_ =>
    rw [if_pos c6] at H
    have c6b0 : decide (x20_1 < (l0.length : Int)) = true := decide_eq_true c6
    clear c6
    refine Or.elim (Classical.em (0 ≤ x20_1)) (fun c7 => ?p2_) (fun c7 => ?n2_)
    case' p2_ =>
     rw [if_pos c7] at H
     have c7b0 : decide (0 ≤ x20_1) = true := decide_eq_true c7
     clear c7
     refine Or.elim (Classical.em (x20_1 < (l0.length : Int))) (fun c8 => ?p3_) (fun c8 => ?n3_)
     case' p3_ =>
      rw [if_pos c8] at H
      have c8b0 : decide (x20_1 < (l0.length : Int)) = true := decide_eq_true c8
      clear c8
      refine Or.elim (Classical.em (((rd_T56 l0 x20_1).f0).toList = t240.toList)) (fun c9 => ?p4_) (fun c9 => ?n4_)
      case' p4_ =>
       rw [if_pos c9] at H
       have c9b0 : (((rd_T56 l0 x20_1).f0).toList == t240.toList) = true := beq_iff_eq.mpr c9
       have c9b1 : (((rd_T56 l0 x20_1).f0).toList != t240.toList) = false := bne_eq_false_iff_eq.mpr c9
       clear c9
       refine Or.elim (Classical.em (t240.toList = ([] : List UInt8))) (fun c10 => ?p5_) (fun c10 => ?n5_)
       case' p5_ =>
        rw [if_pos c10] at H
        have c10b0 : (t240.toList == ([] : List UInt8)) = true := beq_iff_eq.mpr c10
        have c10b1 : (t240.toList != ([] : List UInt8)) = false := bne_eq_false_iff_eq.mpr c10
        clear c10
        refine ?z1_
       case n5_ =>
        rw [if_neg c10] at H
        have c10b0 : (t240.toList == ([] : List UInt8)) = false := beq_eq_false_iff_ne.mpr c10
        have c10b1 : (t240.toList != ([] : List UInt8)) = true := bne_iff_ne.mpr c10
        replace H := Option.bind_eq_some_iff.mp H
        obtain ⟨⟨t244, t245, t246, t247, t248, t249⟩, A140, H⟩ := H
        try dsimp only at H
        have A14 := ak_ A140
        clear A140
        simp only [Option.some.injEq, Prod.mk.injEq] at H
        obtain ⟨rfl, rfl, rfl, rfl, rfl, rfl⟩ := H
        have p242 : 0 ≤ (x20_1 : Int) := of_decide_eq_true (by first | (with_reducible assumption) | assumption)
        have q242 : x20_1 < (l0.length : Int) := of_decide_eq_true (by first | (with_reducible assumption) | assumption)
        obtain ⟨ad242, e242, hx242_0, hx242_1⟩ := at_T56 HR0.out x20_1 p242 q242
        cases e242
        replace hx242_0 := (HB.out.cell (World.block_lt_of_cell? w _ hx242_0)).trans hx242_0
        replace hx242_1 := (HB.out.cell (World.block_lt_of_cell? w _ hx242_1)).trans hx242_1
        replace p242 := eq_true p242
        replace q242 := eq_true q242
        go_wp2_with (first | ((with_reducible refine gate_dst (N := 9) rfl ?_); refine bx_ (N := 9) (cs := #[.string (⟨#[]⟩ : ByteArray), .string (⟨#[]⟩ : ByteArray)]) (t := 56) ?_; intro gb243 hg w15 hbox hb; have BK243 := ak_ (hbox); have GW243 := ge_ hg; have GE243 := ge_ hg; have NB239_243 := nl_ BK239 hg; have NB243_239 := ng_ BK239 hg; replace BK239 := kb_ BK239 hb; replace HB := hb_ hb; clear hb hbox hg; have hnb16 := NB243_239.out; have hnc16 := NB239_243.out; obtain ⟨hcz17_0, hcz17_1⟩ := cl2_ BK243; obtain ⟨hfz17_0, hfz17_1⟩ := fz2_ BK243) | ((with_reducible refine gate_callee (f := 41) rfl ?_); refine gl_ (some 35) Tryz.func41 #[.string ((rd_T56 l0 x20_1).f1)] ?_; (with_reducible refine (cambiumref12_Decode.calls k1 ((rd_T56 l0 x20_1).f1) t244 t245 t246 t247 t248 t249 _ A14.out).mono ?_); rintro e w18 ⟨rfl, hb⟩; refine ⟨_, rfl, ?_⟩; replace BK239 := ak_ (blk_below (g := gb239) (o := .cells #[.int .u8 x240000_1, .int .u16 x240001_1, .int .u32 x240002_1, .int .u32 x240003_1, .string x240004_1] 31 (0, 0)) (bs_) hb); replace BK243 := ak_ (blk_below (g := gb243) (o := .cells #[.string ((rd_T56 l0 x20_1).f0), .string ((rd_T56 l0 x20_1).f1)] 56 (0, 0)) (bs_) hb); replace HB := hb_ hb; (try clear hb)) | ((with_reducible refine gate_dst (N := 10) rfl ?_); refine bx_ (N := 10) (cs := #[.int .u8 0, .int .u16 0, .int .u32 0, .int .u32 0, .string (⟨#[]⟩ : ByteArray)]) (t := 31) ?_; intro gb250 hg w19 hbox hb; have BK250 := ak_ (hbox); have GW250 := ge_ hg; have GE250 := ge_ hg; have NB239_250 := nl_ BK239 hg; have NB250_239 := ng_ BK239 hg; have NB243_250 := nl_ BK243 hg; have NB250_243 := ng_ BK243 hg; replace BK239 := kb_ BK239 hb; replace BK243 := kb_ BK243 hb; replace HB := hb_ hb; clear hb hbox hg; have hnb20 := NB250_239.out; have hnc20 := NB239_250.out; have hnb21 := NB250_243.out; have hnc21 := NB243_250.out; obtain ⟨hcz22_0, hcz22_1, hcz22_2, hcz22_3, hcz22_4⟩ := cl5_ BK250; obtain ⟨hfz22_0, hfz22_1, hfz22_2, hfz22_3, hfz22_4⟩ := fz5_ BK250; obtain ⟨hcz23_0, hcz23_1, hcz23_2, hcz23_3, hcz23_4⟩ := cl5_ BK239; obtain ⟨hfz23_0, hfz23_1, hfz23_2, hfz23_3, hfz23_4⟩ := fz5_ BK239))
        refine bodyPost_ret (results_ct rfl _ _ gb239 31 #[.int .u8 t244, .int .u16 t245, .int .u32 t246, .int .u32 t247, .string t248] (0, 0) _ rfl (bs_) Tryz.underlying31 rfl (by kernel_rfl)) rfl ?_
        exact ⟨by first | rfl | (simp [errW_none, errW_some] <;> rfl) | (simp [*, errW_none, errW_some] <;> rfl), bel_⟩
      case' n4_ =>
       rw [if_neg c9] at H
       have c9b0 : (((rd_T56 l0 x20_1).f0).toList == t240.toList) = false := beq_eq_false_iff_ne.mpr c9
       have c9b1 : (((rd_T56 l0 x20_1).f0).toList != t240.toList) = true := bne_iff_ne.mpr c9
       refine ?z2_
     case n3_ =>
      rw [if_neg c8] at H
      exact absurd H (by simp)
    case n2_ =>
     rw [if_neg c7] at H
     exact absurd H (by simp)
   case n1_ =>
    rw [if_neg c6] at H
    have c6b0 : decide (x20_1 < (l0.length : Int)) = false := decide_eq_false c6
    clear c6
    simp only [Option.some.injEq, Prod.mk.injEq] at H
    obtain ⟨rfl, rfl, rfl, rfl, rfl, rfl⟩ := H
    obtain ⟨hcz27_0, hcz27_1, hcz27_2, hcz27_3, hcz27_4⟩ := cl5_ BK239
    obtain ⟨hfz27_0, hfz27_1, hfz27_2, hfz27_3, hfz27_4⟩ := fz5_ BK239
    go_wp2
    refine bodyPost_ret (results_ct rfl _ _ gb239 31 #[.int .u8 0, .int .u16 0, .int .u32 0, .int .u32 0, .string (⟨#[]⟩ : ByteArray)] (0, 0) _ rfl (bs_) Tryz.underlying31 rfl (by kernel_rfl)) rfl ?_
    exact ⟨by first | rfl | (simp [errW_none, errW_some] <;> rfl) | (simp [*, errW_none, errW_some] <;> rfl), bel_⟩
   case p4_ | n4_ =>
    have H' := ak_ H
    clear H
    have p242 : 0 ≤ (x20_1 : Int) := of_decide_eq_true (by first | (with_reducible assumption) | assumption)
    have q242 : x20_1 < (l0.length : Int) := of_decide_eq_true (by first | (with_reducible assumption) | assumption)
    obtain ⟨ad242, e242, hx242_0, hx242_1⟩ := at_T56 HR0.out x20_1 p242 q242
    cases e242
    replace hx242_0 := (HB.out.cell (World.block_lt_of_cell? w _ hx242_0)).trans hx242_0
    replace hx242_1 := (HB.out.cell (World.block_lt_of_cell? w _ hx242_1)).trans hx242_1
    replace p242 := eq_true p242
    replace q242 := eq_true q242
    go_wp2_with (first | ((with_reducible refine gate_dst (N := 9) rfl ?_); refine bx_ (N := 9) (cs := #[.string (⟨#[]⟩ : ByteArray), .string (⟨#[]⟩ : ByteArray)]) (t := 56) ?_; intro gb243 hg w901 hbox hb; have BK243 := ak_ (hbox); have GW243 := ge_ hg; have GE243 := ge_ hg; have NB239_243 := nl_ BK239 hg; have NB243_239 := ng_ BK239 hg; replace BK239 := kb_ BK239 hb; replace HB := hb_ hb; clear hb hbox hg; have hnb902 := NB243_239.out; have hnc902 := NB239_243.out; obtain ⟨hcz903_0, hcz903_1⟩ := cl2_ BK243; obtain ⟨hfz903_0, hfz903_1⟩ := fz2_ BK243))
    go_roundg k1
    case measure => have := HK1.out; omega
    case rel => exact ⟨(wrap64 (x20_1 + 1)), (x240000_1), (x240001_1), (x240002_1), (x240003_1), (x240004_1), (by first | rfl | (simp; done) | (simp [*]; done)), H', ⟨by have := HK1.out; omega⟩, ⟨bs_⟩, ⟨bel_⟩⟩
def cambiumref14_named.f (k : Nat) (a0_0 : ByteArray) (a0_1 : ByteArray) : Option (Int) := (cambiumref01_TakeNumber.f k a0_1 4).bind fun bt271 => (if bt271.2.2 = 0 then (if bt271.2.1.toList = ([] : List UInt8) then (if bt271.1 < 2 then (some 0) else (some ((bt271.1) % 4294967296))) else (some 0)) else (some 0))
theorem cambiumref14_named.mono : ∀ a0 a1 k, LeO (cambiumref14_named.f k a0 a1) (cambiumref14_named.f (k + 1) a0 a1) := by
 intro a0 a1 k
 unfold cambiumref14_named.f
 repeat' (first | (with_reducible first | exact cambiumref01_TakeNumber.mono _ _ _ | exact LeO.refl _ | exact LeO.none _ | refine LeO.ite ?_ ?_ | refine LeO.bind ?_ (fun _ => ?_)))
set_option maxHeartbeats 64000000 in
set_option maxRecDepth 100000 in
theorem cambiumref14_named.calls (k : Nat) (a0_0 : ByteArray) (a0_1 : ByteArray) (r : Int) (w : World) (h : cambiumref14_named.f k a0_0 a0_1 = some r) :
  Calls Tryz.prog 27 #[.agg #[.string a0_0, .string a0_1]] w fun e w' => e = .returned (.int .u32 r) ∧ Below w.heap.size w w' := by
 have hu56 := Tryz.underlying56
 have HB := ak_ (Below.refl w.heap.size w)
 have H : ((cambiumref01_TakeNumber.f k a0_1 4).bind fun bt271 => (if bt271.2.2 = 0 then (if bt271.2.1.toList = ([] : List UInt8) then (if bt271.1 < 2 then (some 0) else (some ((bt271.1) % 4294967296))) else (some 0)) else (some 0))) = some r := h
 clear h
 replace H := Option.bind_eq_some_iff.mp H
 obtain ⟨⟨t271, t272, t273⟩, A20, H⟩ := H
 try dsimp only at H
 have A2 := ak_ A20
 clear A20
 refine Or.elim (Classical.em (t273 = 0)) (fun c3 => ?p1_) (fun c3 => ?n1_)
 case' p1_ =>
  rw [if_pos c3] at H
  have c3b0 : (t273 == 0) = true := beq_iff_eq.mpr c3
  have c3b1 : (t273 != 0) = false := bne_eq_false_iff_eq.mpr c3
  clear c3
  refine Or.elim (Classical.em (t272.toList = ([] : List UInt8))) (fun c4 => ?p2_) (fun c4 => ?n2_)
  case' p2_ =>
   rw [if_pos c4] at H
   have c4b0 : (t272.toList == ([] : List UInt8)) = true := beq_iff_eq.mpr c4
   have c4b1 : (t272.toList != ([] : List UInt8)) = false := bne_eq_false_iff_eq.mpr c4
   clear c4
   refine Or.elim (Classical.em (t271 < 2)) (fun c5 => ?p3_) (fun c5 => ?n3_)
   case' p3_ =>
    rw [if_pos c5] at H
    have c5b0 : decide (t271 < 2) = true := decide_eq_true c5
    clear c5
    obtain rfl := Option.some.inj H
    refine ?z1_
   case' n3_ =>
    rw [if_neg c5] at H
    have c5b0 : decide (t271 < 2) = false := decide_eq_false c5
    clear c5
    obtain rfl := Option.some.inj H
    refine ?z2_
  case' n2_ =>
   rw [if_neg c4] at H
   have c4b0 : (t272.toList == ([] : List UInt8)) = false := beq_eq_false_iff_ne.mpr c4
   have c4b1 : (t272.toList != ([] : List UInt8)) = true := bne_iff_ne.mpr c4
   obtain rfl := Option.some.inj H
   refine ?z3_
 case' n1_ =>
  rw [if_neg c3] at H
  have c3b0 : (t273 == 0) = false := beq_eq_false_iff_ne.mpr c3
  have c3b1 : (t273 != 0) = true := bne_iff_ne.mpr c3
  obtain rfl := Option.some.inj H
  refine ?z4_
 case p3_ | n3_ | n2_ | n1_ =>
  go_enter Tryz.func27, Tryz.ntmps27
  go_wp2_with (first | ((with_reducible refine gate_dst (N := 1) rfl ?_); refine bx_ (N := 1) (cs := #[.string a0_0, .string a0_1]) (t := 56) ?_; intro gb270 hg w901 hbox hb; have BK270 := ak_ (hbox); have GW270 := ge_ hg; have GE270 := ge_ hg; replace HB := hb_ hb; clear hb hbox hg; obtain ⟨hcz902_0, hcz902_1⟩ := cl2_ BK270; obtain ⟨hfz902_0, hfz902_1⟩ := fz2_ BK270) | ((with_reducible refine gate_callee (f := 44) rfl ?_); refine gl_ (some 9) Tryz.func44 #[.string a0_1, .int .i64 4] ?_; (with_reducible refine (cambiumref01_TakeNumber.calls k a0_1 4 t271 t272 t273 _ A2.out).mono ?_); rintro e w' ⟨rfl, ⟨nd, rfl⟩⟩; refine ⟨_, rfl, ?_⟩))
  go_ret
  exact ⟨by first | rfl | (simp [errW_none, errW_some] <;> rfl) | (simp [*, errW_none, errW_some] <;> rfl), bel_⟩
def cambiumref14_one.f (k : Nat) (l0 : List (S56)) (a1_0 : ByteArray) (a1_1 : ByteArray) : Option (Bool) := (cambiumref12_Parse.f k a1_0).bind fun bt275 => (if bt275.2.2.2.2 = 0 then ((cambiumref14_inode.f k l0 bt275.2.1).bind fun bt281 => (if bt275.1 = 2 then ((cambiumref14_named.f k a1_0 a1_1).bind fun t288 => ((cambiumref14_inode.f k l0 t288).bind fun bt289 => (if bt281.2.2.2.2.2 = true then (if bt281.1 = 1 then (some bt289.2.2.2.2.2) else (some false)) else (some false)))) else (if bt275.1 = 3 then (if bt281.2.2.2.2.2 = true then (if bt281.1 = 2 then (if (a1_1.size : Int) ≥ 1 then (if (a1_1.size : Int) ≤ 128 then (if 0 ≤ (wrap64 ((a1_1.size : Int) - 1)) then (if (wrap64 ((a1_1.size : Int) - 1)) < (a1_1.size : Int) then (if (bt a1_1 (wrap64 ((a1_1.size : Int) - 1))) = 0 then (some false) else (some (decide ((wrap64 ((wrap64 ((wrap64 (bt275.2.2.2.1)) * 128)) + (a1_1.size : Int))) ≤ (wrap64 (bt281.2.2.2.1)))))) else (none)) else (none)) else (some false)) else (some false)) else (some false)) else (some false)) else (if bt275.1 = 4 then (if bt281.2.2.2.2.2 = true then (some (decide ((a1_1.size : Int) ≤ 64))) else (some false)) else (some bt281.2.2.2.2.2))))) else (some false))
theorem cambiumref14_one.mono : ∀ a0 a1 a2 k, LeO (cambiumref14_one.f k a0 a1 a2) (cambiumref14_one.f (k + 1) a0 a1 a2) := by
 intro a0 a1 a2 k
 unfold cambiumref14_one.f
 repeat' (first | (with_reducible first | exact cambiumref12_Parse.mono _ _ | exact cambiumref14_inode.mono _ _ _ | exact cambiumref14_named.mono _ _ _ | exact LeO.refl _ | exact LeO.none _ | refine LeO.ite ?_ ?_ | refine LeO.bind ?_ (fun _ => ?_)))
set_option maxHeartbeats 64000000 in
set_option maxRecDepth 100000 in
theorem cambiumref14_one.calls (k : Nat) (A0 : Option Addr) (c0 : Nat) (l0 : List (S56)) (a1_0 : ByteArray) (a1_1 : ByteArray) (r : Bool) (w : World) (hr0 : Kd.C k56 w A0 l0.length l0) (hc0 : l0.length ≤ c0) (h : cambiumref14_one.f k l0 a1_0 a1_1 = some r) :
  Calls Tryz.prog 30 #[.slice A0 l0.length c0, .agg #[.string a1_0, .string a1_1]] w fun e w' => e = .returned (.bool r) ∧ Below w.heap.size w w' := by
 have hu56 := Tryz.underlying56
 have hu59 := Tryz.underlying59
 have hu31 := Tryz.underlying31
 have HR0 := ak_ hr0
 have HC0 := ak_ hc0
 clear hr0 hc0
 have HB := ak_ (Below.refl w.heap.size w)
 have H : ((cambiumref12_Parse.f k a1_0).bind fun bt275 => (if bt275.2.2.2.2 = 0 then ((cambiumref14_inode.f k l0 bt275.2.1).bind fun bt281 => (if bt275.1 = 2 then ((cambiumref14_named.f k a1_0 a1_1).bind fun t288 => ((cambiumref14_inode.f k l0 t288).bind fun bt289 => (if bt281.2.2.2.2.2 = true then (if bt281.1 = 1 then (some bt289.2.2.2.2.2) else (some false)) else (some false)))) else (if bt275.1 = 3 then (if bt281.2.2.2.2.2 = true then (if bt281.1 = 2 then (if (a1_1.size : Int) ≥ 1 then (if (a1_1.size : Int) ≤ 128 then (if 0 ≤ (wrap64 ((a1_1.size : Int) - 1)) then (if (wrap64 ((a1_1.size : Int) - 1)) < (a1_1.size : Int) then (if (bt a1_1 (wrap64 ((a1_1.size : Int) - 1))) = 0 then (some false) else (some (decide ((wrap64 ((wrap64 ((wrap64 (bt275.2.2.2.1)) * 128)) + (a1_1.size : Int))) ≤ (wrap64 (bt281.2.2.2.1)))))) else (none)) else (none)) else (some false)) else (some false)) else (some false)) else (some false)) else (if bt275.1 = 4 then (if bt281.2.2.2.2.2 = true then (some (decide ((a1_1.size : Int) ≤ 64))) else (some false)) else (some bt281.2.2.2.2.2))))) else (some false))) = some r := h
 clear h
 replace H := Option.bind_eq_some_iff.mp H
 obtain ⟨⟨t275, t276, t277, t278, t279⟩, A30, H⟩ := H
 try dsimp only at H
 have A3 := ak_ A30
 clear A30
 refine Or.elim (Classical.em (t279 = 0)) (fun c4 => ?p1_) (fun c4 => ?n1_)
 case' p1_ =>
  rw [if_pos c4] at H
  have c4b0 : (t279 == 0) = true := beq_iff_eq.mpr c4
  have c4b1 : (t279 != 0) = false := bne_eq_false_iff_eq.mpr c4
  clear c4
  replace H := Option.bind_eq_some_iff.mp H
  obtain ⟨⟨t281, t282, t283, t284, t285, t286⟩, A50, H⟩ := H
  try dsimp only at H
  have A5 := ak_ A50
  clear A50
  refine Or.elim (Classical.em (t275 = 2)) (fun c6 => ?p2_) (fun c6 => ?n2_)
  case' p2_ =>
   rw [if_pos c6] at H
   have c6b0 : (t275 == 2) = true := beq_iff_eq.mpr c6
   have c6b1 : (t275 != 2) = false := bne_eq_false_iff_eq.mpr c6
   clear c6
   replace H := Option.bind_eq_some_iff.mp H
   obtain ⟨t288, A70, H⟩ := H
   try dsimp only at H
   have A7 := ak_ A70
   clear A70
   replace H := Option.bind_eq_some_iff.mp H
   obtain ⟨⟨t289, t290, t291, t292, t293, t294⟩, A80, H⟩ := H
   try dsimp only at H
   have A8 := ak_ A80
   clear A80
   refine Or.elim (Classical.em (t286 = true)) (fun c9 => ?p3_) (fun c9 => ?n3_)
   case' p3_ =>
    subst c9
    rw [if_pos rfl] at H
    refine Or.elim (Classical.em (t281 = 1)) (fun c10 => ?p4_) (fun c10 => ?n4_)
    case' p4_ =>
     rw [if_pos c10] at H
     have c10b0 : (t281 == 1) = true := beq_iff_eq.mpr c10
     have c10b1 : (t281 != 1) = false := bne_eq_false_iff_eq.mpr c10
     clear c10
     obtain rfl := Option.some.inj H
     refine ?z1_
    case' n4_ =>
     rw [if_neg c10] at H
     have c10b0 : (t281 == 1) = false := beq_eq_false_iff_ne.mpr c10
     have c10b1 : (t281 != 1) = true := bne_iff_ne.mpr c10
     obtain rfl := Option.some.inj H
     refine ?z2_
   case' n3_ =>
    replace c9 := Bool.eq_false_iff.mpr c9
    subst c9
    rw [if_neg (show ¬ (false = true) by decide)] at H
    obtain rfl := Option.some.inj H
    refine ?z3_
  case' n2_ =>
   rw [if_neg c6] at H
   have c6b0 : (t275 == 2) = false := beq_eq_false_iff_ne.mpr c6
   have c6b1 : (t275 != 2) = true := bne_iff_ne.mpr c6
   refine Or.elim (Classical.em (t275 = 3)) (fun c73 => ?p5_) (fun c73 => ?n5_)
   case' p5_ =>
    rw [if_pos c73] at H
    have c73b0 : (t275 == 3) = true := beq_iff_eq.mpr c73
    have c73b1 : (t275 != 3) = false := bne_eq_false_iff_eq.mpr c73
    clear c73
    refine Or.elim (Classical.em (t286 = true)) (fun c74 => ?p6_) (fun c74 => ?n6_)
    case' p6_ =>
     subst c74
     rw [if_pos rfl] at H
     refine Or.elim (Classical.em (t281 = 2)) (fun c75 => ?p7_) (fun c75 => ?n7_)
     case' p7_ =>
      rw [if_pos c75] at H
      have c75b0 : (t281 == 2) = true := beq_iff_eq.mpr c75
      have c75b1 : (t281 != 2) = false := bne_eq_false_iff_eq.mpr c75
      clear c75
      refine Or.elim (Classical.em ((a1_1.size : Int) ≥ 1)) (fun c76 => ?p8_) (fun c76 => ?n8_)
      case' p8_ =>
       rw [if_pos c76] at H
       have c76b0 : decide (1 ≤ (a1_1.size : Int)) = true := decide_eq_true c76
       have c76b1 : decide (1 ≤ a1_1.size) = true := decide_eq_true (by omega)
       clear c76
       refine Or.elim (Classical.em ((a1_1.size : Int) ≤ 128)) (fun c77 => ?p9_) (fun c77 => ?n9_)
       case' p9_ =>
        rw [if_pos c77] at H
        have c77b0 : decide ((a1_1.size : Int) ≤ 128) = true := decide_eq_true c77
        have c77b1 : decide (a1_1.size ≤ 128) = true := decide_eq_true (by omega)
        clear c77
        obtain ⟨ji78, hji78⟩ : ∃ j_ : Int, (wrap64 ((a1_1.size : Int) - 1)) = j_ := ⟨_, rfl⟩
        replace H : (if 0 ≤ (ji78) then (if (ji78) < (a1_1.size : Int) then (if (bt a1_1 (ji78)) = 0 then (some false) else (some (decide ((wrap64 ((wrap64 ((wrap64 (t278)) * 128)) + (a1_1.size : Int))) ≤ (wrap64 (t284)))))) else (none)) else (none)) = some r := by first | (rw [hji78] at H; exact H) | (simp only [hji78] at H ⊢; exact H)
        (try rw [hji78] at A3)
        (try rw [hji78] at A5)
        have hji78w : (IntKind.i64.wrap ((a1_1.size : Int) - 1)) = ji78 := (i64_w _).trans hji78
        refine Or.elim (Classical.em (0 ≤ (ji78))) (fun c79 => ?p10_) (fun c79 => ?n10_)
        case' p10_ =>
         rw [if_pos c79] at H
         have c79b0 : decide (0 ≤ (ji78)) = true := decide_eq_true c79
         clear c79
         refine Or.elim (Classical.em ((ji78) < (a1_1.size : Int))) (fun c80 => ?p11_) (fun c80 => ?n11_)
         case' p11_ =>
          rw [if_pos c80] at H
          have c80b0 : decide ((ji78) < (a1_1.size : Int)) = true := decide_eq_true c80
          clear c80
          refine Or.elim (Classical.em ((bt a1_1 (ji78)) = 0)) (fun c82 => ?p12_) (fun c82 => ?n12_)
          case' p12_ =>
           rw [if_pos c82] at H
           have c82b0 : ((bt a1_1 (ji78)) == 0) = true := beq_iff_eq.mpr c82
           have c82b1 : ((bt a1_1 (ji78)) != 0) = false := bne_eq_false_iff_eq.mpr c82
           clear c82
           obtain rfl := Option.some.inj H
           refine ?z4_
          case' n12_ =>
           rw [if_neg c82] at H
           have c82b0 : ((bt a1_1 (ji78)) == 0) = false := beq_eq_false_iff_ne.mpr c82
           have c82b1 : ((bt a1_1 (ji78)) != 0) = true := bne_iff_ne.mpr c82
           obtain rfl := Option.some.inj H
           refine ?z5_
         case n11_ =>
          rw [if_neg c80] at H
          exact absurd H (by simp)
        case n10_ =>
         rw [if_neg c79] at H
         exact absurd H (by simp)
       case' n9_ =>
        rw [if_neg c77] at H
        have c77b0 : decide ((a1_1.size : Int) ≤ 128) = false := decide_eq_false c77
        have c77b1 : decide (a1_1.size ≤ 128) = false := decide_eq_false (by omega)
        clear c77
        obtain rfl := Option.some.inj H
        refine ?z6_
      case' n8_ =>
       rw [if_neg c76] at H
       have c76b0 : decide (1 ≤ (a1_1.size : Int)) = false := decide_eq_false c76
       have c76b1 : decide (1 ≤ a1_1.size) = false := decide_eq_false (by omega)
       clear c76
       obtain rfl := Option.some.inj H
       refine ?z7_
     case' n7_ =>
      rw [if_neg c75] at H
      have c75b0 : (t281 == 2) = false := beq_eq_false_iff_ne.mpr c75
      have c75b1 : (t281 != 2) = true := bne_iff_ne.mpr c75
      obtain rfl := Option.some.inj H
      refine ?z8_
    case' n6_ =>
     replace c74 := Bool.eq_false_iff.mpr c74
     subst c74
     rw [if_neg (show ¬ (false = true) by decide)] at H
     obtain rfl := Option.some.inj H
     refine ?z9_
   case' n5_ =>
    rw [if_neg c73] at H
    have c73b0 : (t275 == 3) = false := beq_eq_false_iff_ne.mpr c73
    have c73b1 : (t275 != 3) = true := bne_iff_ne.mpr c73
    refine Or.elim (Classical.em (t275 = 4)) (fun c159 => ?p13_) (fun c159 => ?n13_)
    case' p13_ =>
     rw [if_pos c159] at H
     have c159b0 : (t275 == 4) = true := beq_iff_eq.mpr c159
     have c159b1 : (t275 != 4) = false := bne_eq_false_iff_eq.mpr c159
     clear c159
     refine Or.elim (Classical.em (t286 = true)) (fun c160 => ?p14_) (fun c160 => ?n14_)
     case' p14_ =>
      subst c160
      rw [if_pos rfl] at H
      obtain rfl := Option.some.inj H
      refine ?z10_
     case' n14_ =>
      replace c160 := Bool.eq_false_iff.mpr c160
      subst c160
      rw [if_neg (show ¬ (false = true) by decide)] at H
      obtain rfl := Option.some.inj H
      refine ?z11_
    case' n13_ =>
     rw [if_neg c159] at H
     have c159b0 : (t275 == 4) = false := beq_eq_false_iff_ne.mpr c159
     have c159b1 : (t275 != 4) = true := bne_iff_ne.mpr c159
     obtain rfl := Option.some.inj H
     refine ?z12_
 case' n1_ =>
  rw [if_neg c4] at H
  have c4b0 : (t279 == 0) = false := beq_eq_false_iff_ne.mpr c4
  have c4b1 : (t279 != 0) = true := bne_iff_ne.mpr c4
  obtain rfl := Option.some.inj H
  refine ?z13_
 case p4_ | n4_ | n3_ | p12_ | n12_ | n9_ | n8_ | n7_ | n6_ | p14_ | n14_ | n13_ | n1_ =>
  go_enter Tryz.func30, Tryz.ntmps30
  go_wp2_with (first | ((with_reducible refine gate_dst (N := 3) rfl ?_); (try (refine gate_guard (by rfl) ?_; dsimp only)); refine bx_ (N := 3) (cs := #[.string a1_0, .string a1_1]) (t := 56) ?_; intro gb274 hg w901 hbox hb; have BK274 := ak_ (hbox); have GW274 := ge_ hg; have GE274 := ge_ hg; replace HB := hb_ hb; clear hb hbox hg; obtain ⟨hcz902_0, hcz902_1⟩ := cl2_ BK274; obtain ⟨hfz902_0, hfz902_1⟩ := fz2_ BK274) | ((with_reducible refine gate_callee (f := 26) rfl ?_); refine gl_ (some 14) Tryz.func26 #[.string a1_0] ?_; (with_reducible refine (cambiumref12_Parse.calls k a1_0 t275 t276 t277 t278 t279 _ A3.out).mono ?_); rintro e w903 ⟨rfl, hb⟩; refine ⟨_, rfl, ?_⟩; replace BK274 := kb_ BK274 hb; replace HB := hb_ hb; (try clear hb)) | ((with_reducible refine gate_dst (N := 5) rfl ?_); (try (refine gate_guard (by rfl) ?_; dsimp only)); refine bx_ (N := 5) (cs := #[.int .u8 0, .int .u32 0, .string (⟨#[]⟩ : ByteArray), .int .u32 0]) (t := 59) ?_; intro gb280 hg w904 hbox hb; have BK280 := ak_ (hbox); have GW280 := ge_ hg; have GE280 := ge_ hg; have NB274_280 := nl_ BK274 hg; have NB280_274 := ng_ BK274 hg; replace BK274 := kb_ BK274 hb; replace HB := hb_ hb; clear hb hbox hg; have hnb905 := NB280_274.out; have hnc905 := NB274_280.out; obtain ⟨hcz906_0, hcz906_1, hcz906_2, hcz906_3⟩ := cl4_ BK280; obtain ⟨hfz906_0, hfz906_1, hfz906_2, hfz906_3⟩ := fz4_ BK280) | ((with_reducible refine gate_callee (f := 21) rfl ?_); refine gl_ (some 23) Tryz.func21 #[.slice A0 l0.length c0, .int .u32 t276] ?_; (with_reducible refine (cambiumref14_inode.calls k _ _ l0 t276 t281 t282 t283 t284 t285 true _ ?side1 ?side2 A5.out).mono ?_); (case side1 => exact Kd.C_below HR0.out bel_); (case side2 => exact HC0.out); rintro e w907 ⟨rfl, hb⟩; refine ⟨_, rfl, ?_⟩; replace BK274 := ak_ (blk_below (g := gb274) (o := .cells #[.string a1_0, .string a1_1] 56 (0, 0)) (bs_) hb); replace BK280 := ak_ (blk_below (g := gb280) (o := .cells #[.int .u8 t275, .int .u32 t276, .string t277, .int .u32 t278] 59 (0, 0)) (bs_) hb); replace HB := hb_ hb; (try clear hb)) | ((with_reducible refine gate_dst (N := 7) rfl ?_); (try (refine gate_guard (by rfl) ?_; dsimp only)); refine bx_ (N := 7) (cs := #[.int .u8 0, .int .u16 0, .int .u32 0, .int .u32 0, .string (⟨#[]⟩ : ByteArray)]) (t := 31) ?_; intro gb287 hg w908 hbox hb; have BK287 := ak_ (hbox); have GW287 := ge_ hg; have GE287 := ge_ hg; have NB274_287 := nl_ BK274 hg; have NB287_274 := ng_ BK274 hg; have NB280_287 := nl_ BK280 hg; have NB287_280 := ng_ BK280 hg; replace BK274 := kb_ BK274 hb; replace BK280 := kb_ BK280 hb; replace HB := hb_ hb; clear hb hbox hg; have hnb909 := NB287_274.out; have hnc909 := NB274_287.out; have hnb910 := NB287_280.out; have hnc910 := NB280_287.out; obtain ⟨hcz911_0, hcz911_1, hcz911_2, hcz911_3, hcz911_4⟩ := cl5_ BK287; obtain ⟨hfz911_0, hfz911_1, hfz911_2, hfz911_3, hfz911_4⟩ := fz5_ BK287; obtain ⟨hcz912_0, hcz912_1, hcz912_2, hcz912_3⟩ := cl4_ BK280; obtain ⟨hfz912_0, hfz912_1, hfz912_2, hfz912_3⟩ := fz4_ BK280; obtain ⟨hcz913_0, hcz913_1⟩ := cl2_ BK274; obtain ⟨hfz913_0, hfz913_1⟩ := fz2_ BK274; have p81 : 0 ≤ ((ji78) : Int) := of_decide_eq_true (by first | (with_reducible assumption) | assumption); have q81 : (ji78) < (a1_1.size : Int) := of_decide_eq_true (by first | (with_reducible assumption) | assumption); have hx81 := bt_at a1_1 (ji78); replace p81 := eq_true p81; replace q81 := eq_true q81) | ((with_reducible refine gate_dst (N := 7) rfl ?_); (try (refine gate_guard (by rfl) ?_; dsimp only)); refine bx_ (N := 7) (cs := #[.int .u8 0, .int .u16 0, .int .u32 0, .int .u32 0, .string (⟨#[]⟩ : ByteArray)]) (t := 31) ?_; intro gb287 hg w908 hbox hb; have BK287 := ak_ (hbox); have GW287 := ge_ hg; have GE287 := ge_ hg; have NB274_287 := nl_ BK274 hg; have NB287_274 := ng_ BK274 hg; have NB280_287 := nl_ BK280 hg; have NB287_280 := ng_ BK280 hg; replace BK274 := kb_ BK274 hb; replace BK280 := kb_ BK280 hb; replace HB := hb_ hb; clear hb hbox hg; have hnb909 := NB287_274.out; have hnc909 := NB274_287.out; have hnb910 := NB287_280.out; have hnc910 := NB280_287.out; obtain ⟨hcz911_0, hcz911_1, hcz911_2, hcz911_3, hcz911_4⟩ := cl5_ BK287; obtain ⟨hfz911_0, hfz911_1, hfz911_2, hfz911_3, hfz911_4⟩ := fz5_ BK287; obtain ⟨hcz912_0, hcz912_1, hcz912_2, hcz912_3⟩ := cl4_ BK280; obtain ⟨hfz912_0, hfz912_1, hfz912_2, hfz912_3⟩ := fz4_ BK280; obtain ⟨hcz913_0, hcz913_1⟩ := cl2_ BK274; obtain ⟨hfz913_0, hfz913_1⟩ := fz2_ BK274) | ((with_reducible refine gate_dst (N := 7) rfl ?_); (try (refine gate_guard (by rfl) ?_; dsimp only)); refine bx_ (N := 7) (cs := #[.int .u8 0, .int .u16 0, .int .u32 0, .int .u32 0, .string (⟨#[]⟩ : ByteArray)]) (t := 31) ?_; intro gb287 hg w908 hbox hb; have BK287 := ak_ (hbox); have GW287 := ge_ hg; have GE287 := ge_ hg; have NB274_287 := nl_ BK274 hg; have NB287_274 := ng_ BK274 hg; have NB280_287 := nl_ BK280 hg; have NB287_280 := ng_ BK280 hg; replace BK274 := kb_ BK274 hb; replace BK280 := kb_ BK280 hb; replace HB := hb_ hb; clear hb hbox hg; have hnb909 := NB287_274.out; have hnc909 := NB274_287.out; have hnb910 := NB287_280.out; have hnc910 := NB280_287.out; obtain ⟨hcz911_0, hcz911_1, hcz911_2, hcz911_3, hcz911_4⟩ := cl5_ BK287; obtain ⟨hfz911_0, hfz911_1, hfz911_2, hfz911_3, hfz911_4⟩ := fz5_ BK287; obtain ⟨hcz912_0, hcz912_1, hcz912_2, hcz912_3⟩ := cl4_ BK280; obtain ⟨hfz912_0, hfz912_1, hfz912_2, hfz912_3⟩ := fz4_ BK280) | ((with_reducible refine gate_callee (f := 21) rfl ?_); refine gl_ (some 23) Tryz.func21 #[.slice A0 l0.length c0, .int .u32 t276] ?_; (with_reducible refine (cambiumref14_inode.calls k _ _ l0 t276 t281 t282 t283 t284 t285 false _ ?side1 ?side2 A5.out).mono ?_); (case side1 => exact Kd.C_below HR0.out bel_); (case side2 => exact HC0.out); rintro e w907 ⟨rfl, hb⟩; refine ⟨_, rfl, ?_⟩; replace BK274 := ak_ (blk_below (g := gb274) (o := .cells #[.string a1_0, .string a1_1] 56 (0, 0)) (bs_) hb); replace BK280 := ak_ (blk_below (g := gb280) (o := .cells #[.int .u8 t275, .int .u32 t276, .string t277, .int .u32 t278] 59 (0, 0)) (bs_) hb); replace HB := hb_ hb; (try clear hb)) | ((with_reducible refine gate_callee (f := 27) rfl ?_); refine gl_ (some 33) Tryz.func27 #[.agg #[.string a1_0, .string a1_1]] ?_; (with_reducible refine (cambiumref14_named.calls k a1_0 a1_1 t288 _ A7.out).mono ?_); rintro e w914 ⟨rfl, hb⟩; refine ⟨_, rfl, ?_⟩; replace BK274 := ak_ (blk_below (g := gb274) (o := .cells #[.string a1_0, .string a1_1] 56 (0, 0)) (bs_) hb); replace BK280 := ak_ (blk_below (g := gb280) (o := .cells #[.int .u8 t275, .int .u32 t276, .string t277, .int .u32 t278] 59 (0, 0)) (bs_) hb); replace BK287 := ak_ (blk_below (g := gb287) (o := .cells #[.int .u8 t281, .int .u16 t282, .int .u32 t283, .int .u32 t284, .string t285] 31 (0, 0)) (bs_) hb); replace HB := hb_ hb; (try clear hb)) | ((with_reducible refine gate_callee (f := 21) rfl ?_); refine gl_ (some 34) Tryz.func21 #[.slice A0 l0.length c0, .int .u32 t288] ?_; (with_reducible refine (cambiumref14_inode.calls k _ _ l0 t288 t289 t290 t291 t292 t293 t294 _ ?side1 ?side2 A8.out).mono ?_); (case side1 => exact cb_ HR0); (case side2 => exact HC0.out); rintro e w915 ⟨rfl, hb⟩; refine ⟨_, rfl, ?_⟩; replace BK274 := kb_ BK274 hb; replace BK280 := kb_ BK280 hb; replace BK287 := kb_ BK287 hb; replace HB := hb_ hb; (try clear hb)) | ((with_reducible refine gate_dst (N := 9) rfl ?_); (try (refine gate_guard (by rfl) ?_; dsimp only)); refine bx_ (N := 9) (cs := #[.int .u8 0, .int .u16 0, .int .u32 0, .int .u32 0, .string (⟨#[]⟩ : ByteArray)]) (t := 31) ?_; intro gb295 hg w916 hbox hb; have BK295 := ak_ (hbox); have GW295 := ge_ hg; have GE295 := ge_ hg; have NB274_295 := nl_ BK274 hg; have NB295_274 := ng_ BK274 hg; have NB280_295 := nl_ BK280 hg; have NB295_280 := ng_ BK280 hg; have NB287_295 := nl_ BK287 hg; have NB295_287 := ng_ BK287 hg; replace BK274 := kb_ BK274 hb; replace BK280 := kb_ BK280 hb; replace BK287 := kb_ BK287 hb; replace HB := hb_ hb; clear hb hbox hg; have hnb917 := NB295_274.out; have hnc917 := NB274_295.out; have hnb918 := NB295_280.out; have hnc918 := NB280_295.out; have hnb919 := NB295_287.out; have hnc919 := NB287_295.out; obtain ⟨hcz920_0, hcz920_1, hcz920_2, hcz920_3, hcz920_4⟩ := cl5_ BK295; obtain ⟨hfz920_0, hfz920_1, hfz920_2, hfz920_3, hfz920_4⟩ := fz5_ BK295; obtain ⟨hcz921_0, hcz921_1, hcz921_2, hcz921_3, hcz921_4⟩ := cl5_ BK287; obtain ⟨hfz921_0, hfz921_1, hfz921_2, hfz921_3, hfz921_4⟩ := fz5_ BK287) | ((with_reducible refine gate_callee (f := 21) rfl ?_); refine gl_ (some 23) Tryz.func21 #[.slice A0 l0.length c0, .int .u32 t276] ?_; (with_reducible refine (cambiumref14_inode.calls k _ _ l0 t276 t281 t282 t283 t284 t285 t286 _ ?side1 ?side2 A5.out).mono ?_); (case side1 => exact Kd.C_below HR0.out bel_); (case side2 => exact HC0.out); rintro e w907 ⟨rfl, hb⟩; refine ⟨_, rfl, ?_⟩; replace BK274 := ak_ (blk_below (g := gb274) (o := .cells #[.string a1_0, .string a1_1] 56 (0, 0)) (bs_) hb); replace BK280 := ak_ (blk_below (g := gb280) (o := .cells #[.int .u8 t275, .int .u32 t276, .string t277, .int .u32 t278] 59 (0, 0)) (bs_) hb); replace HB := hb_ hb; (try clear hb)) | ((with_reducible refine gate_dst (N := 9) rfl ?_); (try (refine gate_guard (by rfl) ?_; dsimp only)); refine bx_ (N := 9) (cs := #[.int .u8 0, .int .u16 0, .int .u32 0, .int .u32 0, .string (⟨#[]⟩ : ByteArray)]) (t := 31) ?_; intro gb295 hg w916 hbox hb; have BK295 := ak_ (hbox); have GW295 := ge_ hg; have GE295 := ge_ hg; have NB274_295 := nl_ BK274 hg; have NB295_274 := ng_ BK274 hg; have NB280_295 := nl_ BK280 hg; have NB295_280 := ng_ BK280 hg; have NB287_295 := nl_ BK287 hg; have NB295_287 := ng_ BK287 hg; replace BK274 := kb_ BK274 hb; replace BK280 := kb_ BK280 hb; replace BK287 := kb_ BK287 hb; replace HB := hb_ hb; clear hb hbox hg; have hnb917 := NB295_274.out; have hnc917 := NB274_295.out; have hnb918 := NB295_280.out; have hnc918 := NB280_295.out; have hnb919 := NB295_287.out; have hnc919 := NB287_295.out; obtain ⟨hcz920_0, hcz920_1, hcz920_2, hcz920_3, hcz920_4⟩ := cl5_ BK295; obtain ⟨hfz920_0, hfz920_1, hfz920_2, hfz920_3, hfz920_4⟩ := fz5_ BK295))
  go_ret
  first | (exact ⟨by first | rfl | (simp [errW_none, errW_some] <;> rfl) | (simp only [← hji78]; first | rfl | (simp [errW_none, errW_some] <;> rfl)) | (simp [*, errW_none, errW_some] <;> rfl), bel_⟩) | (exact ⟨rfl, bel_⟩)
end Go.Proofs.YtpnmajblhgnkoaaGreat.Z
end
