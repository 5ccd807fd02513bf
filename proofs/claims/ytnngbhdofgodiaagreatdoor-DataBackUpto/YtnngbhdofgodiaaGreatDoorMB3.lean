/- This session's own texts, laid together (a part that several claims share). -/
import Derived.Test.YtnngbhdofgodiaaGreatDoorMB1
import Derived.Test.YtnngbhdofgodiaaGreatDoorMB2
import Derived.Laws.BitsLemmas
import Derived.Laws.Bits64
import Derived.Lib.BitFns
import Derived.LoopTactic
import Derived.Lib.IndexLaws
import Derived.Lib.SmallJoins
import Derived.Lib.Join
import Derived.Deep.RegionHeld3
import Derived.Lib.BufferWrite
import Derived.Laws.CopyOwn
import Derived.Lib.Builder
import Derived.Laws.IdiomStrings
import Derived.StillTailTactics
section
-- Printed by a program of this session (mp.py) out of the translation.
namespace Go.Proofs.YtnngbhdofgodiaaGreatDoor.Z
open Go.RowKit Go.Proofs.YtnngbhdofgodiaaGreatDoorW.PrintWords Go.Proofs.YtnngbhdofgodiaaGreatDoorW.PrintLast Go.Proofs.YtnngbhdofgodiaaGreatDoorW.PrintMore
attribute [local go_sem] max2_int min2_int max_two min_two max_three min_three max_four min_four   -- for this text's walks alone
set_option linter.unusedVariables false
set_option linter.unusedSimpArgs false

/-! ### inode_Parse: function 26 -/
def inode_Parse.l0 : Nat → ByteArray → Int → Int → Int → Int → Int → Int → Int → Int → Int → Int → Int → ByteArray → Int → Option (Int × Int × ByteArray × Int × Int)
  | 0, _, _, _, _, _, _, _, _, _, _, _, _, _, _ => none
  | k + 1, x0, x6, x155000, x155001, x155002, x155003, x155004, x155005, x155006, x155007, x156000, x156001, x156002, x156003 => if x6 < 5 then ((inode_letters_letter.f x155000 x155001 x155002 x155003 x155004 x155005 x155006 x155007 x6).bind fun bt156 => (if 0 < (x0.size : Int) then (if bt156.1 = (bt x0 0) then (inode_Parse.l0 k x0 ((x6 + 1) % 256) bt156.2.1 bt156.2.2.1 bt156.2.2.2.1 bt156.2.2.2.2.1 bt156.2.2.2.2.2.1 bt156.2.2.2.2.2.2.1 bt156.2.2.2.2.2.2.2.1 bt156.2.2.2.2.2.2.2.2 x6 x156001 x156002 x156003) else (inode_Parse.l0 k x0 ((x6 + 1) % 256) bt156.2.1 bt156.2.2.1 bt156.2.2.2.1 bt156.2.2.2.2.1 bt156.2.2.2.2.2.1 bt156.2.2.2.2.2.2.1 bt156.2.2.2.2.2.2.2.1 bt156.2.2.2.2.2.2.2.2 x156000 x156001 x156002 x156003)) else (none))) else (if 1 ≤ (x0.size : Int) then ((inode_taker_number.f k (x0.extract 1 x0.size) false 4).bind fun bt166 => (if x156000 = 3 then ((inode_taker_number.f k bt166.2.1 bt166.2.2 4).bind fun bt169 => ((inode_Key.f k x156000 ((bt166.1) % 4294967296) x156002 ((bt169.1) % 4294967296)).bind fun bt172 => (if bt169.2.2 = true then (some (0, 0, (⟨#[]⟩ : ByteArray), 0, 4)) else (if bt172.2 = 0 then (if bt172.1.toList = x0.toList then (some (x156000, (bt166.1) % 4294967296, x156002, (bt169.1) % 4294967296, 0)) else (some (0, 0, (⟨#[]⟩ : ByteArray), 0, 4))) else (some (0, 0, (⟨#[]⟩ : ByteArray), 0, 4)))))) else ((inode_Key.f k x156000 ((bt166.1) % 4294967296) bt166.2.1 x156003).bind fun bt174 => (if bt166.2.2 = true then (some (0, 0, (⟨#[]⟩ : ByteArray), 0, 4)) else (if bt174.2 = 0 then (if bt174.1.toList = x0.toList then (some (x156000, (bt166.1) % 4294967296, bt166.2.1, x156003, 0)) else (some (0, 0, (⟨#[]⟩ : ByteArray), 0, 4))) else (some (0, 0, (⟨#[]⟩ : ByteArray), 0, 4))))))) else (none))
def inode_Parse.f (k : Nat) (a0 : ByteArray) : Option (Int × Int × ByteArray × Int × Int) := if (a0.size : Int) < 5 then (some (0, 0, (⟨#[]⟩ : ByteArray), 0, 4)) else (inode_Parse.l0 k a0 1 0 0 0 0 0 0 0 0 0 0 (⟨#[]⟩ : ByteArray) 0)
theorem inode_Parse.mono_l : ∀ k, (∀ y0 y1 y2 y3 y4 y5 y6 y7 y8 y9 y10 y11 y12 y13, LeO (inode_Parse.l0 k y0 y1 y2 y3 y4 y5 y6 y7 y8 y9 y10 y11 y12 y13) (inode_Parse.l0 (k + 1) y0 y1 y2 y3 y4 y5 y6 y7 y8 y9 y10 y11 y12 y13))
  | 0 => fun _ _ _ _ _ _ _ _ _ _ _ _ _ _ r h => by simp [inode_Parse.l0] at h
  | k + 1 => by
    have ih0 := inode_Parse.mono_l k
    · intro y0 y1 y2 y3 y4 y5 y6 y7 y8 y9 y10 y11 y12 y13
      unfold inode_Parse.l0
      repeat' first
      | (with_reducible exact ih0 _ _ _ _ _ _ _ _ _ _ _ _ _ _)
      | (with_reducible exact inode_Key.mono _ _ _ _ _)
      | (with_reducible exact inode_taker_number.mono _ _ _ _)
      | (with_reducible exact LeO.refl _)
      | (with_reducible exact LeO.none _)
      | (with_reducible refine LeO.ite ?_ ?_)
      | (with_reducible refine LeO.bind ?_ (fun _ => ?_))
      | exact ih0 _ _ _ _ _ _ _ _ _ _ _ _ _ _
      | exact inode_Key.mono _ _ _ _ _
      | exact inode_taker_number.mono _ _ _ _
      | exact LeO.none _
      | refine LeO.ite ?_ ?_
      | refine LeO.bind ?_ (fun _ => ?_)
theorem inode_Parse.mono : ∀ a0 k, LeO (inode_Parse.f k a0) (inode_Parse.f (k + 1) a0) := by
  intro a0 k
  have ih0 := inode_Parse.mono_l k
  unfold inode_Parse.f
  repeat' first
      | (with_reducible exact ih0 _ _ _ _ _ _ _ _ _ _ _ _ _ _)
      | (with_reducible exact inode_Key.mono _ _ _ _ _)
      | (with_reducible exact inode_taker_number.mono _ _ _ _)
      | (with_reducible exact LeO.refl _)
      | (with_reducible exact LeO.none _)
      | (with_reducible refine LeO.ite ?_ ?_)
      | (with_reducible refine LeO.bind ?_ (fun _ => ?_))
      | exact ih0 _ _ _ _ _ _ _ _ _ _ _ _ _ _
      | exact inode_Key.mono _ _ _ _ _
      | exact inode_taker_number.mono _ _ _ _
      | exact LeO.none _
      | refine LeO.ite ?_ ?_
      | refine LeO.bind ?_ (fun _ => ?_)
set_option maxHeartbeats 8000000 in
set_option maxRecDepth 100000 in
theorem inode_Parse.calls (k : Nat) (a0 : ByteArray) (r1 : Int) (r2 : Int) (r3 : ByteArray) (r4 : Int) (r5 : Int) (w : World) (h : inode_Parse.f k a0 = some (r1, r2, r3, r4, r5)) :
    Calls Tryz.prog 26 #[.string a0] w fun e w' => e = .returned (.tuple #[.agg #[.int .u8 r1, .int .u32 r2, .string r3, .int .u32 r4], .int .i64 r5]) ∧ Below w.heap.size w w' := by
  have hu71 := Tryz.underlying71
  have hu102 := Tryz.underlying102
  have hu106 := Tryz.underlying106
  have HB := Aside0.mk (Below.refl w.heap.size w)
  have H : (if (a0.size : Int) < 5 then (some (0, 0, (⟨#[]⟩ : ByteArray), 0, 4)) else (inode_Parse.l0 k a0 1 0 0 0 0 0 0 0 0 0 0 (⟨#[]⟩ : ByteArray) 0)) = some (r1, r2, r3, r4, r5) := h
  clear h
  by_cases c2 : (a0.size : Int) < 5
  · rw [if_pos c2] at H
    have c2b0 : decide ((a0.size : Int) < 5) = true := decide_eq_true c2
    have c2b1 : decide (a0.size < 5) = true := decide_eq_true (by omega)
    clear c2
    simp only [Option.some.injEq, Prod.mk.injEq] at H
    obtain ⟨rfl, rfl, rfl, rfl, rfl⟩ := H
    go_enter Tryz.func26, Tryz.ntmps26
    go_wp2_with (first | ((with_reducible refine gate_dst (N := 2) rfl ?_); refine bx_ (N := 2) (cs := #[.int .u8 0, .int .u32 0, .string (⟨#[]⟩ : ByteArray), .int .u32 0]) (t := 71) ?_; intro gb153 hg w3 hbox hb; have BK153 := Aside0.mk (hbox); have GW153 := ge_ hg; have GE153 := ge_ hg; replace HB := hb_ hb; clear hb hbox hg; obtain ⟨hcz4_0, hcz4_1, hcz4_2, hcz4_3⟩ := cl4_ BK153; obtain ⟨hfz4_0, hfz4_1, hfz4_2, hfz4_3⟩ := fz4_ BK153))
    refine bodyPost_ret (results_ct rfl _ _ gb153 71 #[.int .u8 0, .int .u32 0, .string (⟨#[]⟩ : ByteArray), .int .u32 0] (0, 0) _ rfl (bs_) Tryz.underlying71 rfl (by kernel_rfl)) rfl ?_
    exact ⟨by first | rfl | (simp [errW_none, errW_some] <;> rfl) | (simp [*, errW_none, errW_some] <;> rfl), bel_⟩
  rw [if_neg c2] at H
  have c2b0 : decide ((a0.size : Int) < 5) = false := decide_eq_false c2
  have c2b1 : decide (a0.size < 5) = false := decide_eq_false (by omega)
  clear c2
  have H' := Aside0.mk H
  clear H
  go_enter Tryz.func26, Tryz.ntmps26
  go_wp2_with (first | ((with_reducible refine gate_dst (N := 2) rfl ?_); refine bx_ (N := 2) (cs := #[.int .u8 0, .int .u32 0, .string (⟨#[]⟩ : ByteArray), .int .u32 0]) (t := 71) ?_; intro gb153 hg w5 hbox hb; have BK153 := Aside0.mk (hbox); have GW153 := ge_ hg; have GE153 := ge_ hg; replace HB := hb_ hb; clear hb hbox hg) | ((with_reducible refine gate_dst (N := 4) rfl ?_); refine bx_ (N := 4) (cs := #[.int .u32 0, .int .i32 0, .int .u32 0, .int .u8 0, .int .u8 0, .int .u8 0, .int .u8 0, .int .u8 0]) (t := 102) ?_; intro gb154 hg w6 hbox hb; have BK154 := Aside0.mk (hbox); have GW154 := ge_ hg; have GE154 := ge_ hg; have NB153_154 := nl_ BK153 hg; have NB154_153 := ng_ BK153 hg; replace BK153 := kb_ BK153 hb; replace HB := hb_ hb; clear hb hbox hg) | ((with_reducible refine gate_dst (N := 5) rfl ?_); refine bx_ (N := 5) (cs := #[.int .u8 0, .int .u32 0, .string (⟨#[]⟩ : ByteArray), .int .u32 0]) (t := 71) ?_; intro gb155 hg w7 hbox hb; have BK155 := Aside0.mk (hbox); have GW155 := ge_ hg; have GE155 := ge_ hg; have NB153_155 := nl_ BK153 hg; have NB155_153 := ng_ BK153 hg; have NB154_155 := nl_ BK154 hg; have NB155_154 := ng_ BK154 hg; replace BK153 := kb_ BK153 hb; replace BK154 := kb_ BK154 hb; replace HB := hb_ hb; clear hb hbox hg; have hnb8 := NB155_153.out; have hnc8 := NB153_155.out; have hnb9 := NB155_154.out; have hnc9 := NB154_155.out; obtain ⟨hcz10_0, hcz10_1, hcz10_2, hcz10_3⟩ := cl4_ BK155; obtain ⟨hfz10_0, hfz10_1, hfz10_2, hfz10_3⟩ := fz4_ BK155))
  go_loopg [6] k (fun kq v6 w' => ∃ (x6_1 : Int) (x155000_1 : Int) (x155001_1 : Int) (x155002_1 : Int) (x155003_1 : Int) (x155004_1 : Int) (x155005_1 : Int) (x155006_1 : Int) (x155007_1 : Int) (x156000_1 : Int), v6 = .int .u8 x6_1 ∧ Aside0 (inode_Parse.l0 kq a0 x6_1 x155000_1 x155001_1 x155002_1 x155003_1 x155004_1 x155005_1 x155006_1 x155007_1 x156000_1 0 (⟨#[]⟩ : ByteArray) 0 = some (r1, r2, r3, r4, r5)) ∧ Aside0 (kq ≤ k) ∧ Aside0 (w'.heap[gb153]? = some (.cells #[.int .u8 0, .int .u32 0, .string (⟨#[]⟩ : ByteArray), .int .u32 0] 71 (0, 0))) ∧ Aside0 (w'.heap[gb154]? = some (.cells #[.int .u32 x155000_1, .int .i32 x155001_1, .int .u32 x155002_1, .int .u8 x155003_1, .int .u8 x155004_1, .int .u8 x155005_1, .int .u8 x155006_1, .int .u8 x155007_1] 102 (0, 0))) ∧ Aside0 (w'.heap[gb155]? = some (.cells #[.int .u8 x156000_1, .int .u32 0, .string (⟨#[]⟩ : ByteArray), .int .u32 0] 71 (0, 0))) ∧ Aside0 (Below w.heap.size w w'))
  case atStart => exact ⟨(1), (0), (0), (0), (0), (0), (0), (0), (0), (0), (by first | rfl | (simp; done) | (simp [*]; done)), H', ⟨Nat.le_refl _⟩, ⟨bs_⟩, ⟨bs_⟩, ⟨bs_⟩, ⟨bel_⟩⟩
  case round =>
    clear H'
    try clear c2
    try clear c2b0
    try clear c2b1
    try clear p2
    try clear c8
    try clear c9
    try clear hcz10_0
    try clear hcz10_1
    try clear hcz10_2
    try clear hcz10_3
    try clear hcz4_0
    try clear hcz4_1
    try clear hcz4_2
    try clear hcz4_3
    try clear hfz10_0
    try clear hfz10_1
    try clear hfz10_2
    try clear hfz10_3
    try clear hfz4_0
    try clear hfz4_1
    try clear hfz4_2
    try clear hfz4_3
    obtain ⟨x6_1, x155000_1, x155001_1, x155002_1, x155003_1, x155004_1, x155005_1, x155006_1, x155007_1, x156000_1, rfl, HA, HK1, BK153, BK154, BK155, HB⟩ := hrel
    cases gk with
    | zero => exact absurd HA.out (by simp [inode_Parse.l0])
    | succ k1 =>
      have H := HA.out
      clear HA
      simp only [inode_Parse.l0] at H
      by_cases c11 : x6_1 < 5
      · rw [if_pos c11] at H
        have c11b0 : decide (x6_1 < 5) = true := decide_eq_true c11
        clear c11
        replace H := Option.bind_eq_some_iff.mp H
        obtain ⟨⟨t156, t157, t158, t159, t160, t161, t162, t163, t164⟩, A120, H⟩ := H
        replace H : (if 0 < (a0.size : Int) then (if t156 = (bt a0 0) then (inode_Parse.l0 k1 a0 ((x6_1 + 1) % 256) t157 t158 t159 t160 t161 t162 t163 t164 x6_1 0 (⟨#[]⟩ : ByteArray) 0) else (inode_Parse.l0 k1 a0 ((x6_1 + 1) % 256) t157 t158 t159 t160 t161 t162 t163 t164 x156000_1 0 (⟨#[]⟩ : ByteArray) 0)) else (none)) = some (r1, r2, r3, r4, r5) := H
        have A12 := Aside0.mk A120
        clear A120
        by_cases c13 : 0 < (a0.size : Int)
        · rw [if_pos c13] at H
          have c13b0 : decide (0 < (a0.size : Int)) = true := decide_eq_true c13
          have c13b1 : decide (0 < a0.size) = true := decide_eq_true (by omega)
          clear c13
          by_cases c15 : t156 = (bt a0 0)
          · rw [if_pos c15] at H
            have c15b0 : (t156 == (bt a0 0)) = true := beq_iff_eq.mpr c15
            have c15b1 : (t156 != (bt a0 0)) = false := bne_eq_false_iff_eq.mpr c15
            clear c15
            have H' := Aside0.mk H
            clear H
            try go_wp2
            replace BK153 := Aside0.mk (blk_drew BK153.out)
            replace BK154 := Aside0.mk (blk_drew BK154.out)
            replace BK155 := Aside0.mk (blk_drew BK155.out)
            replace HB := Aside0.mk (below_drew1 HB.out)
            have p14 : 0 ≤ (0 : Int) := (by omega)
            have q14 : 0 < a0.size := (by have : (0 : Int) < (a0.size : Int) := of_decide_eq_true (by first | (with_reducible assumption) | assumption); omega)
            have hx14 : ∀ h : 0 < a0.size, ((a0[0]'h).toNat : Int) = bt a0 0 := bt_at a0 0
            clear p14
            have qi14 : (0 < (a0.size : Int)) = True := eq_true (of_decide_eq_true (by first | (with_reducible assumption) | assumption))
            replace q14 := eq_true q14
            refine start_ (n := 5) (S := fun w' => True) (ds := []) #[false, false, false, false, false] (by kernel_rfl) rfl rfl trivial (fun hHeld => ?_)
            generalize wr.drew = w16 at BK153 BK154 BK155 HB hHeld ⊢
            refine pu_ 0 19 ?_
            refine pu_ 2 21 ?_
            refine take_ (i := 3) (N := some 22) (v := ?_) (a' := ?_) #[true, false, true, true, false] rfl rfl (by kernel_rfl) (fun _ _ _ h => h) (Or.inl ⟨by rfl, ?_⟩) hHeld ?_ ?_
            rotate_left
            · intro w' _
              go_simp
              with_reducible rfl
            rotate_left
            · simp only [Act.put, List.setIfInBounds_toArray, List.set_cons_zero, List.set_cons_succ, i64_w, i32_w]
              rfl
            refine on_ 1 20 (fun K hK => ?_)
            refine goes_ Tryz.func41 (by kernel_rfl) rfl #[.pointer (some ⟨gb154, 0, none⟩), .int .u8 x6_1] (by rfl) rfl rfl (by (try simp only [List.map_toArray, List.map_cons, List.map_nil]); first | done | rfl | (simp only [List.length_drop, List.length_take]; rfl)) ?_
            with_reducible refine (inode_letters_letter.calls gb154 x155000_1 x155001_1 x155002_1 x155003_1 x155004_1 x155005_1 x155006_1 x155007_1 x6_1 t156 t157 t158 t159 t160 t161 t162 t163 t164 w _ ?side1 ?side2 A12.out).mono ?_
            (case side1 => exact ⟨(bk_ BK154), GE154.out⟩)
            (case side2 => repeat (first | (with_reducible first | exact HB.out | apply below_alloc | apply pw_below_drewN | apply below_drew1 | refine below_set ?_ GE153.out | refine below_set ?_ GE154.out | refine below_set ?_ GE155.out) | exact HB.out))
            rintro e w17 ⟨rfl, hi, hb, hk⟩
            refine ⟨_, rfl, ?_⟩
            replace BK153 := Aside0.mk (KeepBut.blk hk (g' := gb153) (o := .cells #[.int .u8 0, .int .u32 0, .string (⟨#[]⟩ : ByteArray), .int .u32 0] 71 (0, 0)) (bk_ BK153) NB153_154.out (by simp))
            replace BK155 := Aside0.mk (KeepBut.blk hk (g' := gb155) (o := .cells #[.int .u8 x156000_1, .int .u32 0, .string (⟨#[]⟩ : ByteArray), .int .u32 0] 71 (0, 0)) (bk_ BK155) NB155_154.out (by simp))
            replace HB := Aside0.mk (hb)
            replace BK154 := Aside0.mk (hi.1)
            (try clear hb)
            (try clear hb2)
            (try clear hk)
            (try clear hi)
            refine hK.out _ _ trivial (fun hHeld => ?_)
            clear hK K
            refine nm_ 20 ?_
            refine pu_ 4 23 ?_
            refine done_ (by kernel_rfl) ?_
            have hnb18 := NB155_153.out
            have hnc18 := NB153_155.out
            have hnb19 := NB155_154.out
            have hnc19 := NB154_155.out
            obtain ⟨hcz20_0, hcz20_1, hcz20_2, hcz20_3⟩ := cl4_ BK155
            obtain ⟨hfz20_0, hfz20_1, hfz20_2, hfz20_3⟩ := fz4_ BK155
            try go_wp2
            go_roundg k1
            case measure => have := HK1.out; omega
            case rel => exact ⟨((x6_1 + 1) % 256), (t157), (t158), (t159), (t160), (t161), (t162), (t163), (t164), (x6_1), (by first | rfl | (simp; done) | (simp [*]; done)), H', ⟨by have := HK1.out; omega⟩, ⟨bs_⟩, ⟨bs_⟩, ⟨bs_⟩, ⟨bel_⟩⟩
          rw [if_neg c15] at H
          have c15b0 : (t156 == (bt a0 0)) = false := beq_eq_false_iff_ne.mpr c15
          have c15b1 : (t156 != (bt a0 0)) = true := bne_iff_ne.mpr c15
          have H' := Aside0.mk H
          clear H
          try go_wp2
          replace BK153 := Aside0.mk (blk_drew BK153.out)
          replace BK154 := Aside0.mk (blk_drew BK154.out)
          replace BK155 := Aside0.mk (blk_drew BK155.out)
          replace HB := Aside0.mk (below_drew1 HB.out)
          have p14 : 0 ≤ (0 : Int) := (by omega)
          have q14 : 0 < a0.size := (by have : (0 : Int) < (a0.size : Int) := of_decide_eq_true (by first | (with_reducible assumption) | assumption); omega)
          have hx14 : ∀ h : 0 < a0.size, ((a0[0]'h).toNat : Int) = bt a0 0 := bt_at a0 0
          clear p14
          have qi14 : (0 < (a0.size : Int)) = True := eq_true (of_decide_eq_true (by first | (with_reducible assumption) | assumption))
          replace q14 := eq_true q14
          refine start_ (n := 5) (S := fun w' => True) (ds := []) #[false, false, false, false, false] (by kernel_rfl) rfl rfl trivial (fun hHeld => ?_)
          generalize wr.drew = w21 at BK153 BK154 BK155 HB hHeld ⊢
          refine pu_ 0 19 ?_
          refine pu_ 2 21 ?_
          refine take_ (i := 3) (N := some 22) (v := ?_) (a' := ?_) #[true, false, true, true, false] rfl rfl (by kernel_rfl) (fun _ _ _ h => h) (Or.inl ⟨by rfl, ?_⟩) hHeld ?_ ?_
          rotate_left
          · intro w' _
            go_simp
            with_reducible rfl
          rotate_left
          · simp only [Act.put, List.setIfInBounds_toArray, List.set_cons_zero, List.set_cons_succ, i64_w, i32_w]
            rfl
          refine on_ 1 20 (fun K hK => ?_)
          refine goes_ Tryz.func41 (by kernel_rfl) rfl #[.pointer (some ⟨gb154, 0, none⟩), .int .u8 x6_1] (by rfl) rfl rfl (by (try simp only [List.map_toArray, List.map_cons, List.map_nil]); first | done | rfl | (simp only [List.length_drop, List.length_take]; rfl)) ?_
          with_reducible refine (inode_letters_letter.calls gb154 x155000_1 x155001_1 x155002_1 x155003_1 x155004_1 x155005_1 x155006_1 x155007_1 x6_1 t156 t157 t158 t159 t160 t161 t162 t163 t164 w _ ?side1 ?side2 A12.out).mono ?_
          (case side1 => exact ⟨(bk_ BK154), GE154.out⟩)
          (case side2 => repeat (first | (with_reducible first | exact HB.out | apply below_alloc | apply pw_below_drewN | apply below_drew1 | refine below_set ?_ GE153.out | refine below_set ?_ GE154.out | refine below_set ?_ GE155.out) | exact HB.out))
          rintro e w22 ⟨rfl, hi, hb, hk⟩
          refine ⟨_, rfl, ?_⟩
          replace BK153 := Aside0.mk (KeepBut.blk hk (g' := gb153) (o := .cells #[.int .u8 0, .int .u32 0, .string (⟨#[]⟩ : ByteArray), .int .u32 0] 71 (0, 0)) (bk_ BK153) NB153_154.out (by simp))
          replace BK155 := Aside0.mk (KeepBut.blk hk (g' := gb155) (o := .cells #[.int .u8 x156000_1, .int .u32 0, .string (⟨#[]⟩ : ByteArray), .int .u32 0] 71 (0, 0)) (bk_ BK155) NB155_154.out (by simp))
          replace HB := Aside0.mk (hb)
          replace BK154 := Aside0.mk (hi.1)
          (try clear hb)
          (try clear hb2)
          (try clear hk)
          (try clear hi)
          refine hK.out _ _ trivial (fun hHeld => ?_)
          clear hK K
          refine nm_ 20 ?_
          refine pu_ 4 23 ?_
          refine done_ (by kernel_rfl) ?_
          try go_wp2
          go_roundg k1
          case measure => have := HK1.out; omega
          case rel => exact ⟨((x6_1 + 1) % 256), (t157), (t158), (t159), (t160), (t161), (t162), (t163), (t164), (x156000_1), (by first | rfl | (simp; done) | (simp [*]; done)), H', ⟨by have := HK1.out; omega⟩, ⟨bk_ BK153⟩, ⟨bk_ BK154⟩, ⟨bk_ BK155⟩, ⟨bel_⟩⟩
        rw [if_neg c13] at H
        exact absurd H (by simp)
      rw [if_neg c11] at H
      have c11b0 : decide (x6_1 < 5) = false := decide_eq_false c11
      clear c11
      by_cases c23 : 1 ≤ (a0.size : Int)
      · rw [if_pos c23] at H
        have c23b0 := eq_true c23
        have c23b1 : decide (1 ≤ (a0.size : Int)) = true := decide_eq_true c23
        clear c23
        replace H := Option.bind_eq_some_iff.mp H
        obtain ⟨⟨t166, t167, t168⟩, A240, H⟩ := H
        replace H : (if x156000_1 = 3 then ((inode_taker_number.f k1 t167 t168 4).bind fun bt169 => ((inode_Key.f k1 x156000_1 ((t166) % 4294967296) (⟨#[]⟩ : ByteArray) ((bt169.1) % 4294967296)).bind fun bt172 => (if bt169.2.2 = true then (some (0, 0, (⟨#[]⟩ : ByteArray), 0, 4)) else (if bt172.2 = 0 then (if bt172.1.toList = a0.toList then (some (x156000_1, (t166) % 4294967296, (⟨#[]⟩ : ByteArray), (bt169.1) % 4294967296, 0)) else (some (0, 0, (⟨#[]⟩ : ByteArray), 0, 4))) else (some (0, 0, (⟨#[]⟩ : ByteArray), 0, 4)))))) else ((inode_Key.f k1 x156000_1 ((t166) % 4294967296) t167 0).bind fun bt174 => (if t168 = true then (some (0, 0, (⟨#[]⟩ : ByteArray), 0, 4)) else (if bt174.2 = 0 then (if bt174.1.toList = a0.toList then (some (x156000_1, (t166) % 4294967296, t167, 0, 0)) else (some (0, 0, (⟨#[]⟩ : ByteArray), 0, 4))) else (some (0, 0, (⟨#[]⟩ : ByteArray), 0, 4)))))) = some (r1, r2, r3, r4, r5) := H
        have A24 := Aside0.mk A240
        clear A240
        by_cases c25 : x156000_1 = 3
        · rw [if_pos c25] at H
          have c25b0 : (x156000_1 == 3) = true := beq_iff_eq.mpr c25
          have c25b1 : (x156000_1 != 3) = false := bne_eq_false_iff_eq.mpr c25
          clear c25
          replace H := Option.bind_eq_some_iff.mp H
          obtain ⟨⟨t169, t170, t171⟩, A260, H⟩ := H
          replace H : ((inode_Key.f k1 x156000_1 ((t166) % 4294967296) (⟨#[]⟩ : ByteArray) ((t169) % 4294967296)).bind fun bt172 => (if t171 = true then (some (0, 0, (⟨#[]⟩ : ByteArray), 0, 4)) else (if bt172.2 = 0 then (if bt172.1.toList = a0.toList then (some (x156000_1, (t166) % 4294967296, (⟨#[]⟩ : ByteArray), (t169) % 4294967296, 0)) else (some (0, 0, (⟨#[]⟩ : ByteArray), 0, 4))) else (some (0, 0, (⟨#[]⟩ : ByteArray), 0, 4))))) = some (r1, r2, r3, r4, r5) := H
          have A26 := Aside0.mk A260
          clear A260
          replace H := Option.bind_eq_some_iff.mp H
          obtain ⟨⟨t172, t173⟩, A270, H⟩ := H
          replace H : (if t171 = true then (some (0, 0, (⟨#[]⟩ : ByteArray), 0, 4)) else (if t173 = 0 then (if t172.toList = a0.toList then (some (x156000_1, (t166) % 4294967296, (⟨#[]⟩ : ByteArray), (t169) % 4294967296, 0)) else (some (0, 0, (⟨#[]⟩ : ByteArray), 0, 4))) else (some (0, 0, (⟨#[]⟩ : ByteArray), 0, 4)))) = some (r1, r2, r3, r4, r5) := H
          have A27 := Aside0.mk A270
          clear A270
          by_cases c28 : t171 = true
          · subst c28
            have H1 : (some (0, 0, (⟨#[]⟩ : ByteArray), 0, 4)) = some (r1, r2, r3, r4, r5) := by rw [if_pos rfl] at H; exact H
            clear H
            have H := H1
            clear H1
            simp only [Option.some.injEq, Prod.mk.injEq] at H
            obtain ⟨rfl, rfl, rfl, rfl, rfl⟩ := H
            go_wp2_with (first | ((with_reducible refine gate_dst (N := 29) rfl ?_); refine bx_ (N := 29) (cs := #[.string (a0.extract 1 a0.size), .bool false]) (t := 106) ?_; intro gb165 hg w29 hbox hb; have BK165 := Aside0.mk (hbox); have GW165 := ge_ hg; have GE165 := ge_ hg; have NB153_165 := nl_ BK153 hg; have NB165_153 := ng_ BK153 hg; have NB154_165 := nl_ BK154 hg; have NB165_154 := ng_ BK154 hg; have NB155_165 := nl_ BK155 hg; have NB165_155 := ng_ BK155 hg; replace BK153 := kb_ BK153 hb; replace BK154 := kb_ BK154 hb; replace BK155 := kb_ BK155 hb; replace HB := hb_ hb; clear hb hbox hg) | ((with_reducible refine gate_callee (f := 42) rfl ?_); refine gl_ (some 31) Tryz.func42 #[.pointer (some ⟨gb165, 0, none⟩), .int .i64 4] ?_; (with_reducible refine (inode_taker_number.calls k1 gb165 (a0.extract 1 a0.size) false 4 t166 t167 t168 w _ ?side1 ?side2 A24.out).mono ?_); (case side1 => exact ⟨(bk_ BK165), GE165.out⟩); (case side2 => repeat (first | (with_reducible first | exact HB.out | apply below_alloc | apply pw_below_drewN | apply below_drew1 | refine below_set ?_ GE153.out | refine below_set ?_ GE154.out | refine below_set ?_ GE155.out | refine below_set ?_ GE165.out) | exact HB.out)); rintro e w30 ⟨rfl, hi, hb, hk⟩; refine ⟨_, rfl, ?_⟩; replace BK153 := Aside0.mk (KeepBut.blk hk (g' := gb153) (o := .cells #[.int .u8 0, .int .u32 0, .string (⟨#[]⟩ : ByteArray), .int .u32 0] 71 (0, 0)) (bk_ BK153) NB153_165.out (by simp)); replace BK154 := Aside0.mk (KeepBut.blk hk (g' := gb154) (o := .cells #[.int .u32 x155000_1, .int .i32 x155001_1, .int .u32 x155002_1, .int .u8 x155003_1, .int .u8 x155004_1, .int .u8 x155005_1, .int .u8 x155006_1, .int .u8 x155007_1] 102 (0, 0)) (bk_ BK154) NB154_165.out (by simp)); replace BK155 := Aside0.mk (KeepBut.blk hk (g' := gb155) (o := .cells #[.int .u8 x156000_1, .int .u32 0, .string (⟨#[]⟩ : ByteArray), .int .u32 0] 71 (0, 0)) (bk_ BK155) NB155_165.out (by simp)); replace HB := Aside0.mk (hb); replace BK165 := Aside0.mk (hi.1); (try clear hb); (try clear hb2); (try clear hk); (try clear hi); have hnb31 := NB155_153.out; have hnc31 := NB153_155.out; have hnb32 := NB155_154.out; have hnc32 := NB154_155.out; have hnb33 := NB155_165.out; have hnc33 := NB165_155.out; obtain ⟨hcz34_0, hcz34_1, hcz34_2, hcz34_3⟩ := cl4_ BK155; obtain ⟨hfz34_0, hfz34_1, hfz34_2, hfz34_3⟩ := fz4_ BK155) | ((with_reducible refine gate_callee (f := 42) rfl ?_); refine gl_ (some 38) Tryz.func42 #[.pointer (some ⟨gb165, 0, none⟩), .int .i64 4] ?_; (with_reducible refine (inode_taker_number.calls k1 gb165 t167 t168 4 t169 t170 true w _ ?side1 ?side2 A26.out).mono ?_); (case side1 => exact ⟨(bs_), GE165.out⟩); (case side2 => repeat (first | (with_reducible first | exact HB.out | apply below_alloc | apply pw_below_drewN | apply below_drew1 | refine below_set ?_ GE153.out | refine below_set ?_ GE154.out | refine below_set ?_ GE155.out | refine below_set ?_ GE165.out) | exact HB.out)); rintro e w35 ⟨rfl, hi, hb, hk⟩; refine ⟨_, rfl, ?_⟩; replace BK153 := Aside0.mk (KeepBut.blk hk (g' := gb153) (o := .cells #[.int .u8 0, .int .u32 0, .string (⟨#[]⟩ : ByteArray), .int .u32 0] 71 (0, 0)) (bs_) NB153_165.out (by simp)); replace BK154 := Aside0.mk (KeepBut.blk hk (g' := gb154) (o := .cells #[.int .u32 x155000_1, .int .i32 x155001_1, .int .u32 x155002_1, .int .u8 x155003_1, .int .u8 x155004_1, .int .u8 x155005_1, .int .u8 x155006_1, .int .u8 x155007_1] 102 (0, 0)) (bs_) NB154_165.out (by simp)); replace BK155 := Aside0.mk (KeepBut.blk hk (g' := gb155) (o := .cells #[.int .u8 x156000_1, .int .u32 ((t166) % 4294967296), .string (⟨#[]⟩ : ByteArray), .int .u32 0] 71 (0, 0)) (bs_) NB155_165.out (by simp)); replace HB := Aside0.mk (hb); replace BK165 := Aside0.mk (hi.1); (try clear hb); (try clear hb2); (try clear hk); (try clear hi); obtain ⟨hcz36_0, hcz36_1, hcz36_2, hcz36_3⟩ := cl4_ BK155; obtain ⟨hfz36_0, hfz36_1, hfz36_2, hfz36_3⟩ := fz4_ BK155) | ((with_reducible refine gate_callee (f := 43) rfl ?_); refine gl_ (some 48) Tryz.func43 #[.agg #[.int .u8 x156000_1, .int .u32 ((t166) % 4294967296), .string (⟨#[]⟩ : ByteArray), .int .u32 ((t169) % 4294967296)]] ?_; (with_reducible refine (inode_Key.calls k1 x156000_1 ((t166) % 4294967296) (⟨#[]⟩ : ByteArray) ((t169) % 4294967296) t172 t173 _ A27.out).mono ?_); rintro e w37 ⟨rfl, hb⟩; refine ⟨_, rfl, ?_⟩; replace BK153 := Aside0.mk (blk_below (g := gb153) (o := .cells #[.int .u8 0, .int .u32 0, .string (⟨#[]⟩ : ByteArray), .int .u32 0] 71 (0, 0)) (bs_) hb); replace BK154 := Aside0.mk (blk_below (g := gb154) (o := .cells #[.int .u32 x155000_1, .int .i32 x155001_1, .int .u32 x155002_1, .int .u8 x155003_1, .int .u8 x155004_1, .int .u8 x155005_1, .int .u8 x155006_1, .int .u8 x155007_1] 102 (0, 0)) (bs_) hb); replace BK155 := Aside0.mk (blk_below (g := gb155) (o := .cells #[.int .u8 x156000_1, .int .u32 ((t166) % 4294967296), .string (⟨#[]⟩ : ByteArray), .int .u32 ((t169) % 4294967296)] 71 (0, 0)) (bs_) hb); replace BK165 := Aside0.mk (blk_below (g := gb165) (o := .cells #[.string t170, .bool true] 106 (0, 0)) (bs_) hb); replace HB := hb_ hb; (try clear hb); (try clear hb2); (try clear hk); (try clear hi); have hnb38 := NB165_153.out; have hnc38 := NB153_165.out; have hnb39 := NB165_154.out; have hnc39 := NB154_165.out; obtain ⟨hcz40_0, hcz40_1⟩ := cl2_ BK165; obtain ⟨hfz40_0, hfz40_1⟩ := fz2_ BK165; have hnb41 := NB153_154.out; have hnc41 := NB154_153.out; obtain ⟨hcz42_0, hcz42_1, hcz42_2, hcz42_3⟩ := cl4_ BK153; obtain ⟨hfz42_0, hfz42_1, hfz42_2, hfz42_3⟩ := fz4_ BK153))
            refine bodyPost_ret (results_ct rfl _ _ gb153 71 #[.int .u8 0, .int .u32 0, .string (⟨#[]⟩ : ByteArray), .int .u32 0] (0, 0) _ rfl (bs_) Tryz.underlying71 rfl (by kernel_rfl)) rfl ?_
            exact ⟨by first | rfl | (simp [errW_none, errW_some] <;> rfl) | (simp [*, errW_none, errW_some] <;> rfl), bel_⟩
          replace c28 := Bool.eq_false_iff.mpr c28
          subst c28
          have H1 : (if t173 = 0 then (if t172.toList = a0.toList then (some (x156000_1, (t166) % 4294967296, (⟨#[]⟩ : ByteArray), (t169) % 4294967296, 0)) else (some (0, 0, (⟨#[]⟩ : ByteArray), 0, 4))) else (some (0, 0, (⟨#[]⟩ : ByteArray), 0, 4))) = some (r1, r2, r3, r4, r5) := by rw [if_neg (show ¬ (false = true) by decide)] at H; exact H
          clear H
          have H := H1
          clear H1
          by_cases c43 : t173 = 0
          · rw [if_pos c43] at H
            have c43b0 : (t173 == 0) = true := beq_iff_eq.mpr c43
            have c43b1 : (t173 != 0) = false := bne_eq_false_iff_eq.mpr c43
            clear c43
            by_cases c44 : t172.toList = a0.toList
            · rw [if_pos c44] at H
              have c44b0 : (t172.toList == a0.toList) = true := beq_iff_eq.mpr c44
              have c44b1 : (t172.toList != a0.toList) = false := bne_eq_false_iff_eq.mpr c44
              clear c44
              simp only [Option.some.injEq, Prod.mk.injEq] at H
              obtain ⟨rfl, rfl, rfl, rfl, rfl⟩ := H
              go_wp2_with (first | ((with_reducible refine gate_dst (N := 29) rfl ?_); refine bx_ (N := 29) (cs := #[.string (a0.extract 1 a0.size), .bool false]) (t := 106) ?_; intro gb165 hg w45 hbox hb; have BK165 := Aside0.mk (hbox); have GW165 := ge_ hg; have GE165 := ge_ hg; have NB153_165 := nl_ BK153 hg; have NB165_153 := ng_ BK153 hg; have NB154_165 := nl_ BK154 hg; have NB165_154 := ng_ BK154 hg; have NB155_165 := nl_ BK155 hg; have NB165_155 := ng_ BK155 hg; replace BK153 := kb_ BK153 hb; replace BK154 := kb_ BK154 hb; replace BK155 := kb_ BK155 hb; replace HB := hb_ hb; clear hb hbox hg) | ((with_reducible refine gate_callee (f := 42) rfl ?_); refine gl_ (some 31) Tryz.func42 #[.pointer (some ⟨gb165, 0, none⟩), .int .i64 4] ?_; (with_reducible refine (inode_taker_number.calls k1 gb165 (a0.extract 1 a0.size) false 4 t166 t167 t168 w _ ?side1 ?side2 A24.out).mono ?_); (case side1 => exact ⟨(bk_ BK165), GE165.out⟩); (case side2 => repeat (first | (with_reducible first | exact HB.out | apply below_alloc | apply pw_below_drewN | apply below_drew1 | refine below_set ?_ GE153.out | refine below_set ?_ GE154.out | refine below_set ?_ GE155.out | refine below_set ?_ GE165.out) | exact HB.out)); rintro e w46 ⟨rfl, hi, hb, hk⟩; refine ⟨_, rfl, ?_⟩; replace BK153 := Aside0.mk (KeepBut.blk hk (g' := gb153) (o := .cells #[.int .u8 0, .int .u32 0, .string (⟨#[]⟩ : ByteArray), .int .u32 0] 71 (0, 0)) (bk_ BK153) NB153_165.out (by simp)); replace BK154 := Aside0.mk (KeepBut.blk hk (g' := gb154) (o := .cells #[.int .u32 x155000_1, .int .i32 x155001_1, .int .u32 x155002_1, .int .u8 x155003_1, .int .u8 x155004_1, .int .u8 x155005_1, .int .u8 x155006_1, .int .u8 x155007_1] 102 (0, 0)) (bk_ BK154) NB154_165.out (by simp)); replace BK155 := Aside0.mk (KeepBut.blk hk (g' := gb155) (o := .cells #[.int .u8 x156000_1, .int .u32 0, .string (⟨#[]⟩ : ByteArray), .int .u32 0] 71 (0, 0)) (bk_ BK155) NB155_165.out (by simp)); replace HB := Aside0.mk (hb); replace BK165 := Aside0.mk (hi.1); (try clear hb); (try clear hb2); (try clear hk); (try clear hi); have hnb47 := NB155_153.out; have hnc47 := NB153_155.out; have hnb48 := NB155_154.out; have hnc48 := NB154_155.out; have hnb49 := NB155_165.out; have hnc49 := NB165_155.out; obtain ⟨hcz50_0, hcz50_1, hcz50_2, hcz50_3⟩ := cl4_ BK155; obtain ⟨hfz50_0, hfz50_1, hfz50_2, hfz50_3⟩ := fz4_ BK155) | ((with_reducible refine gate_callee (f := 42) rfl ?_); refine gl_ (some 38) Tryz.func42 #[.pointer (some ⟨gb165, 0, none⟩), .int .i64 4] ?_; (with_reducible refine (inode_taker_number.calls k1 gb165 t167 t168 4 t169 t170 false w _ ?side1 ?side2 A26.out).mono ?_); (case side1 => exact ⟨(bs_), GE165.out⟩); (case side2 => repeat (first | (with_reducible first | exact HB.out | apply below_alloc | apply pw_below_drewN | apply below_drew1 | refine below_set ?_ GE153.out | refine below_set ?_ GE154.out | refine below_set ?_ GE155.out | refine below_set ?_ GE165.out) | exact HB.out)); rintro e w51 ⟨rfl, hi, hb, hk⟩; refine ⟨_, rfl, ?_⟩; replace BK153 := Aside0.mk (KeepBut.blk hk (g' := gb153) (o := .cells #[.int .u8 0, .int .u32 0, .string (⟨#[]⟩ : ByteArray), .int .u32 0] 71 (0, 0)) (bs_) NB153_165.out (by simp)); replace BK154 := Aside0.mk (KeepBut.blk hk (g' := gb154) (o := .cells #[.int .u32 x155000_1, .int .i32 x155001_1, .int .u32 x155002_1, .int .u8 x155003_1, .int .u8 x155004_1, .int .u8 x155005_1, .int .u8 x155006_1, .int .u8 x155007_1] 102 (0, 0)) (bs_) NB154_165.out (by simp)); replace BK155 := Aside0.mk (KeepBut.blk hk (g' := gb155) (o := .cells #[.int .u8 x156000_1, .int .u32 ((t166) % 4294967296), .string (⟨#[]⟩ : ByteArray), .int .u32 0] 71 (0, 0)) (bs_) NB155_165.out (by simp)); replace HB := Aside0.mk (hb); replace BK165 := Aside0.mk (hi.1); (try clear hb); (try clear hb2); (try clear hk); (try clear hi); obtain ⟨hcz52_0, hcz52_1, hcz52_2, hcz52_3⟩ := cl4_ BK155; obtain ⟨hfz52_0, hfz52_1, hfz52_2, hfz52_3⟩ := fz4_ BK155) | ((with_reducible refine gate_callee (f := 43) rfl ?_); refine gl_ (some 48) Tryz.func43 #[.agg #[.int .u8 x156000_1, .int .u32 ((t166) % 4294967296), .string (⟨#[]⟩ : ByteArray), .int .u32 ((t169) % 4294967296)]] ?_; (with_reducible refine (inode_Key.calls k1 x156000_1 ((t166) % 4294967296) (⟨#[]⟩ : ByteArray) ((t169) % 4294967296) t172 t173 _ A27.out).mono ?_); rintro e w53 ⟨rfl, hb⟩; refine ⟨_, rfl, ?_⟩; replace BK153 := Aside0.mk (blk_below (g := gb153) (o := .cells #[.int .u8 0, .int .u32 0, .string (⟨#[]⟩ : ByteArray), .int .u32 0] 71 (0, 0)) (bs_) hb); replace BK154 := Aside0.mk (blk_below (g := gb154) (o := .cells #[.int .u32 x155000_1, .int .i32 x155001_1, .int .u32 x155002_1, .int .u8 x155003_1, .int .u8 x155004_1, .int .u8 x155005_1, .int .u8 x155006_1, .int .u8 x155007_1] 102 (0, 0)) (bs_) hb); replace BK155 := Aside0.mk (blk_below (g := gb155) (o := .cells #[.int .u8 x156000_1, .int .u32 ((t166) % 4294967296), .string (⟨#[]⟩ : ByteArray), .int .u32 ((t169) % 4294967296)] 71 (0, 0)) (bs_) hb); replace BK165 := Aside0.mk (blk_below (g := gb165) (o := .cells #[.string t170, .bool false] 106 (0, 0)) (bs_) hb); replace HB := hb_ hb; (try clear hb); (try clear hb2); (try clear hk); (try clear hi); have hnb54 := NB165_153.out; have hnc54 := NB153_165.out; have hnb55 := NB165_154.out; have hnc55 := NB154_165.out; obtain ⟨hcz56_0, hcz56_1⟩ := cl2_ BK165; obtain ⟨hfz56_0, hfz56_1⟩ := fz2_ BK165; obtain ⟨hcz57_0, hcz57_1, hcz57_2, hcz57_3⟩ := cl4_ BK155; obtain ⟨hfz57_0, hfz57_1, hfz57_2, hfz57_3⟩ := fz4_ BK155; have hnb58 := NB153_154.out; have hnc58 := NB154_153.out; obtain ⟨hcz59_0, hcz59_1, hcz59_2, hcz59_3⟩ := cl4_ BK153; obtain ⟨hfz59_0, hfz59_1, hfz59_2, hfz59_3⟩ := fz4_ BK153))
              refine bodyPost_ret (results_ct rfl _ _ gb153 71 #[.int .u8 x156000_1, .int .u32 ((t166) % 4294967296), .string (⟨#[]⟩ : ByteArray), .int .u32 ((t169) % 4294967296)] (0, 0) _ rfl (bs_) Tryz.underlying71 rfl (by kernel_rfl)) rfl ?_
              exact ⟨by first | rfl | (simp [errW_none, errW_some] <;> rfl) | (simp [*, errW_none, errW_some] <;> rfl), bel_⟩
            rw [if_neg c44] at H
            have c44b0 : (t172.toList == a0.toList) = false := beq_eq_false_iff_ne.mpr c44
            have c44b1 : (t172.toList != a0.toList) = true := bne_iff_ne.mpr c44
            simp only [Option.some.injEq, Prod.mk.injEq] at H
            obtain ⟨rfl, rfl, rfl, rfl, rfl⟩ := H
            go_wp2_with (first | ((with_reducible refine gate_dst (N := 29) rfl ?_); refine bx_ (N := 29) (cs := #[.string (a0.extract 1 a0.size), .bool false]) (t := 106) ?_; intro gb165 hg w60 hbox hb; have BK165 := Aside0.mk (hbox); have GW165 := ge_ hg; have GE165 := ge_ hg; have NB153_165 := nl_ BK153 hg; have NB165_153 := ng_ BK153 hg; have NB154_165 := nl_ BK154 hg; have NB165_154 := ng_ BK154 hg; have NB155_165 := nl_ BK155 hg; have NB165_155 := ng_ BK155 hg; replace BK153 := kb_ BK153 hb; replace BK154 := kb_ BK154 hb; replace BK155 := kb_ BK155 hb; replace HB := hb_ hb; clear hb hbox hg) | ((with_reducible refine gate_callee (f := 42) rfl ?_); refine gl_ (some 31) Tryz.func42 #[.pointer (some ⟨gb165, 0, none⟩), .int .i64 4] ?_; (with_reducible refine (inode_taker_number.calls k1 gb165 (a0.extract 1 a0.size) false 4 t166 t167 t168 w _ ?side1 ?side2 A24.out).mono ?_); (case side1 => exact ⟨(bk_ BK165), GE165.out⟩); (case side2 => repeat (first | (with_reducible first | exact HB.out | apply below_alloc | apply pw_below_drewN | apply below_drew1 | refine below_set ?_ GE153.out | refine below_set ?_ GE154.out | refine below_set ?_ GE155.out | refine below_set ?_ GE165.out) | exact HB.out)); rintro e w61 ⟨rfl, hi, hb, hk⟩; refine ⟨_, rfl, ?_⟩; replace BK153 := Aside0.mk (KeepBut.blk hk (g' := gb153) (o := .cells #[.int .u8 0, .int .u32 0, .string (⟨#[]⟩ : ByteArray), .int .u32 0] 71 (0, 0)) (bk_ BK153) NB153_165.out (by simp)); replace BK154 := Aside0.mk (KeepBut.blk hk (g' := gb154) (o := .cells #[.int .u32 x155000_1, .int .i32 x155001_1, .int .u32 x155002_1, .int .u8 x155003_1, .int .u8 x155004_1, .int .u8 x155005_1, .int .u8 x155006_1, .int .u8 x155007_1] 102 (0, 0)) (bk_ BK154) NB154_165.out (by simp)); replace BK155 := Aside0.mk (KeepBut.blk hk (g' := gb155) (o := .cells #[.int .u8 x156000_1, .int .u32 0, .string (⟨#[]⟩ : ByteArray), .int .u32 0] 71 (0, 0)) (bk_ BK155) NB155_165.out (by simp)); replace HB := Aside0.mk (hb); replace BK165 := Aside0.mk (hi.1); (try clear hb); (try clear hb2); (try clear hk); (try clear hi); have hnb62 := NB155_153.out; have hnc62 := NB153_155.out; have hnb63 := NB155_154.out; have hnc63 := NB154_155.out; have hnb64 := NB155_165.out; have hnc64 := NB165_155.out; obtain ⟨hcz65_0, hcz65_1, hcz65_2, hcz65_3⟩ := cl4_ BK155; obtain ⟨hfz65_0, hfz65_1, hfz65_2, hfz65_3⟩ := fz4_ BK155) | ((with_reducible refine gate_callee (f := 42) rfl ?_); refine gl_ (some 38) Tryz.func42 #[.pointer (some ⟨gb165, 0, none⟩), .int .i64 4] ?_; (with_reducible refine (inode_taker_number.calls k1 gb165 t167 t168 4 t169 t170 false w _ ?side1 ?side2 A26.out).mono ?_); (case side1 => exact ⟨(bs_), GE165.out⟩); (case side2 => repeat (first | (with_reducible first | exact HB.out | apply below_alloc | apply pw_below_drewN | apply below_drew1 | refine below_set ?_ GE153.out | refine below_set ?_ GE154.out | refine below_set ?_ GE155.out | refine below_set ?_ GE165.out) | exact HB.out)); rintro e w66 ⟨rfl, hi, hb, hk⟩; refine ⟨_, rfl, ?_⟩; replace BK153 := Aside0.mk (KeepBut.blk hk (g' := gb153) (o := .cells #[.int .u8 0, .int .u32 0, .string (⟨#[]⟩ : ByteArray), .int .u32 0] 71 (0, 0)) (bs_) NB153_165.out (by simp)); replace BK154 := Aside0.mk (KeepBut.blk hk (g' := gb154) (o := .cells #[.int .u32 x155000_1, .int .i32 x155001_1, .int .u32 x155002_1, .int .u8 x155003_1, .int .u8 x155004_1, .int .u8 x155005_1, .int .u8 x155006_1, .int .u8 x155007_1] 102 (0, 0)) (bs_) NB154_165.out (by simp)); replace BK155 := Aside0.mk (KeepBut.blk hk (g' := gb155) (o := .cells #[.int .u8 x156000_1, .int .u32 ((t166) % 4294967296), .string (⟨#[]⟩ : ByteArray), .int .u32 0] 71 (0, 0)) (bs_) NB155_165.out (by simp)); replace HB := Aside0.mk (hb); replace BK165 := Aside0.mk (hi.1); (try clear hb); (try clear hb2); (try clear hk); (try clear hi); obtain ⟨hcz67_0, hcz67_1, hcz67_2, hcz67_3⟩ := cl4_ BK155; obtain ⟨hfz67_0, hfz67_1, hfz67_2, hfz67_3⟩ := fz4_ BK155) | ((with_reducible refine gate_callee (f := 43) rfl ?_); refine gl_ (some 48) Tryz.func43 #[.agg #[.int .u8 x156000_1, .int .u32 ((t166) % 4294967296), .string (⟨#[]⟩ : ByteArray), .int .u32 ((t169) % 4294967296)]] ?_; (with_reducible refine (inode_Key.calls k1 x156000_1 ((t166) % 4294967296) (⟨#[]⟩ : ByteArray) ((t169) % 4294967296) t172 t173 _ A27.out).mono ?_); rintro e w68 ⟨rfl, hb⟩; refine ⟨_, rfl, ?_⟩; replace BK153 := Aside0.mk (blk_below (g := gb153) (o := .cells #[.int .u8 0, .int .u32 0, .string (⟨#[]⟩ : ByteArray), .int .u32 0] 71 (0, 0)) (bs_) hb); replace BK154 := Aside0.mk (blk_below (g := gb154) (o := .cells #[.int .u32 x155000_1, .int .i32 x155001_1, .int .u32 x155002_1, .int .u8 x155003_1, .int .u8 x155004_1, .int .u8 x155005_1, .int .u8 x155006_1, .int .u8 x155007_1] 102 (0, 0)) (bs_) hb); replace BK155 := Aside0.mk (blk_below (g := gb155) (o := .cells #[.int .u8 x156000_1, .int .u32 ((t166) % 4294967296), .string (⟨#[]⟩ : ByteArray), .int .u32 ((t169) % 4294967296)] 71 (0, 0)) (bs_) hb); replace BK165 := Aside0.mk (blk_below (g := gb165) (o := .cells #[.string t170, .bool false] 106 (0, 0)) (bs_) hb); replace HB := hb_ hb; (try clear hb); (try clear hb2); (try clear hk); (try clear hi); have hnb69 := NB165_153.out; have hnc69 := NB153_165.out; have hnb70 := NB165_154.out; have hnc70 := NB154_165.out; obtain ⟨hcz71_0, hcz71_1⟩ := cl2_ BK165; obtain ⟨hfz71_0, hfz71_1⟩ := fz2_ BK165; have hnb72 := NB153_154.out; have hnc72 := NB154_153.out; obtain ⟨hcz73_0, hcz73_1, hcz73_2, hcz73_3⟩ := cl4_ BK153; obtain ⟨hfz73_0, hfz73_1, hfz73_2, hfz73_3⟩ := fz4_ BK153))
            refine bodyPost_ret (results_ct rfl _ _ gb153 71 #[.int .u8 0, .int .u32 0, .string (⟨#[]⟩ : ByteArray), .int .u32 0] (0, 0) _ rfl (bs_) Tryz.underlying71 rfl (by kernel_rfl)) rfl ?_
            exact ⟨by first | rfl | (simp [errW_none, errW_some] <;> rfl) | (simp [*, errW_none, errW_some] <;> rfl), bel_⟩
          rw [if_neg c43] at H
          have c43b0 : (t173 == 0) = false := beq_eq_false_iff_ne.mpr c43
          have c43b1 : (t173 != 0) = true := bne_iff_ne.mpr c43
          simp only [Option.some.injEq, Prod.mk.injEq] at H
          obtain ⟨rfl, rfl, rfl, rfl, rfl⟩ := H
          go_wp2_with (first | ((with_reducible refine gate_dst (N := 29) rfl ?_); refine bx_ (N := 29) (cs := #[.string (a0.extract 1 a0.size), .bool false]) (t := 106) ?_; intro gb165 hg w74 hbox hb; have BK165 := Aside0.mk (hbox); have GW165 := ge_ hg; have GE165 := ge_ hg; have NB153_165 := nl_ BK153 hg; have NB165_153 := ng_ BK153 hg; have NB154_165 := nl_ BK154 hg; have NB165_154 := ng_ BK154 hg; have NB155_165 := nl_ BK155 hg; have NB165_155 := ng_ BK155 hg; replace BK153 := kb_ BK153 hb; replace BK154 := kb_ BK154 hb; replace BK155 := kb_ BK155 hb; replace HB := hb_ hb; clear hb hbox hg) | ((with_reducible refine gate_callee (f := 42) rfl ?_); refine gl_ (some 31) Tryz.func42 #[.pointer (some ⟨gb165, 0, none⟩), .int .i64 4] ?_; (with_reducible refine (inode_taker_number.calls k1 gb165 (a0.extract 1 a0.size) false 4 t166 t167 t168 w _ ?side1 ?side2 A24.out).mono ?_); (case side1 => exact ⟨(bk_ BK165), GE165.out⟩); (case side2 => repeat (first | (with_reducible first | exact HB.out | apply below_alloc | apply pw_below_drewN | apply below_drew1 | refine below_set ?_ GE153.out | refine below_set ?_ GE154.out | refine below_set ?_ GE155.out | refine below_set ?_ GE165.out) | exact HB.out)); rintro e w75 ⟨rfl, hi, hb, hk⟩; refine ⟨_, rfl, ?_⟩; replace BK153 := Aside0.mk (KeepBut.blk hk (g' := gb153) (o := .cells #[.int .u8 0, .int .u32 0, .string (⟨#[]⟩ : ByteArray), .int .u32 0] 71 (0, 0)) (bk_ BK153) NB153_165.out (by simp)); replace BK154 := Aside0.mk (KeepBut.blk hk (g' := gb154) (o := .cells #[.int .u32 x155000_1, .int .i32 x155001_1, .int .u32 x155002_1, .int .u8 x155003_1, .int .u8 x155004_1, .int .u8 x155005_1, .int .u8 x155006_1, .int .u8 x155007_1] 102 (0, 0)) (bk_ BK154) NB154_165.out (by simp)); replace BK155 := Aside0.mk (KeepBut.blk hk (g' := gb155) (o := .cells #[.int .u8 x156000_1, .int .u32 0, .string (⟨#[]⟩ : ByteArray), .int .u32 0] 71 (0, 0)) (bk_ BK155) NB155_165.out (by simp)); replace HB := Aside0.mk (hb); replace BK165 := Aside0.mk (hi.1); (try clear hb); (try clear hb2); (try clear hk); (try clear hi); have hnb76 := NB155_153.out; have hnc76 := NB153_155.out; have hnb77 := NB155_154.out; have hnc77 := NB154_155.out; have hnb78 := NB155_165.out; have hnc78 := NB165_155.out; obtain ⟨hcz79_0, hcz79_1, hcz79_2, hcz79_3⟩ := cl4_ BK155; obtain ⟨hfz79_0, hfz79_1, hfz79_2, hfz79_3⟩ := fz4_ BK155) | ((with_reducible refine gate_callee (f := 42) rfl ?_); refine gl_ (some 38) Tryz.func42 #[.pointer (some ⟨gb165, 0, none⟩), .int .i64 4] ?_; (with_reducible refine (inode_taker_number.calls k1 gb165 t167 t168 4 t169 t170 false w _ ?side1 ?side2 A26.out).mono ?_); (case side1 => exact ⟨(bs_), GE165.out⟩); (case side2 => repeat (first | (with_reducible first | exact HB.out | apply below_alloc | apply pw_below_drewN | apply below_drew1 | refine below_set ?_ GE153.out | refine below_set ?_ GE154.out | refine below_set ?_ GE155.out | refine below_set ?_ GE165.out) | exact HB.out)); rintro e w80 ⟨rfl, hi, hb, hk⟩; refine ⟨_, rfl, ?_⟩; replace BK153 := Aside0.mk (KeepBut.blk hk (g' := gb153) (o := .cells #[.int .u8 0, .int .u32 0, .string (⟨#[]⟩ : ByteArray), .int .u32 0] 71 (0, 0)) (bs_) NB153_165.out (by simp)); replace BK154 := Aside0.mk (KeepBut.blk hk (g' := gb154) (o := .cells #[.int .u32 x155000_1, .int .i32 x155001_1, .int .u32 x155002_1, .int .u8 x155003_1, .int .u8 x155004_1, .int .u8 x155005_1, .int .u8 x155006_1, .int .u8 x155007_1] 102 (0, 0)) (bs_) NB154_165.out (by simp)); replace BK155 := Aside0.mk (KeepBut.blk hk (g' := gb155) (o := .cells #[.int .u8 x156000_1, .int .u32 ((t166) % 4294967296), .string (⟨#[]⟩ : ByteArray), .int .u32 0] 71 (0, 0)) (bs_) NB155_165.out (by simp)); replace HB := Aside0.mk (hb); replace BK165 := Aside0.mk (hi.1); (try clear hb); (try clear hb2); (try clear hk); (try clear hi); obtain ⟨hcz81_0, hcz81_1, hcz81_2, hcz81_3⟩ := cl4_ BK155; obtain ⟨hfz81_0, hfz81_1, hfz81_2, hfz81_3⟩ := fz4_ BK155) | ((with_reducible refine gate_callee (f := 43) rfl ?_); refine gl_ (some 48) Tryz.func43 #[.agg #[.int .u8 x156000_1, .int .u32 ((t166) % 4294967296), .string (⟨#[]⟩ : ByteArray), .int .u32 ((t169) % 4294967296)]] ?_; (with_reducible refine (inode_Key.calls k1 x156000_1 ((t166) % 4294967296) (⟨#[]⟩ : ByteArray) ((t169) % 4294967296) t172 t173 _ A27.out).mono ?_); rintro e w82 ⟨rfl, hb⟩; refine ⟨_, rfl, ?_⟩; replace BK153 := Aside0.mk (blk_below (g := gb153) (o := .cells #[.int .u8 0, .int .u32 0, .string (⟨#[]⟩ : ByteArray), .int .u32 0] 71 (0, 0)) (bs_) hb); replace BK154 := Aside0.mk (blk_below (g := gb154) (o := .cells #[.int .u32 x155000_1, .int .i32 x155001_1, .int .u32 x155002_1, .int .u8 x155003_1, .int .u8 x155004_1, .int .u8 x155005_1, .int .u8 x155006_1, .int .u8 x155007_1] 102 (0, 0)) (bs_) hb); replace BK155 := Aside0.mk (blk_below (g := gb155) (o := .cells #[.int .u8 x156000_1, .int .u32 ((t166) % 4294967296), .string (⟨#[]⟩ : ByteArray), .int .u32 ((t169) % 4294967296)] 71 (0, 0)) (bs_) hb); replace BK165 := Aside0.mk (blk_below (g := gb165) (o := .cells #[.string t170, .bool false] 106 (0, 0)) (bs_) hb); replace HB := hb_ hb; (try clear hb); (try clear hb2); (try clear hk); (try clear hi); have hnb83 := NB165_153.out; have hnc83 := NB153_165.out; have hnb84 := NB165_154.out; have hnc84 := NB154_165.out; obtain ⟨hcz85_0, hcz85_1⟩ := cl2_ BK165; obtain ⟨hfz85_0, hfz85_1⟩ := fz2_ BK165; have hnb86 := NB153_154.out; have hnc86 := NB154_153.out; obtain ⟨hcz87_0, hcz87_1, hcz87_2, hcz87_3⟩ := cl4_ BK153; obtain ⟨hfz87_0, hfz87_1, hfz87_2, hfz87_3⟩ := fz4_ BK153))
          refine bodyPost_ret (results_ct rfl _ _ gb153 71 #[.int .u8 0, .int .u32 0, .string (⟨#[]⟩ : ByteArray), .int .u32 0] (0, 0) _ rfl (bs_) Tryz.underlying71 rfl (by kernel_rfl)) rfl ?_
          exact ⟨by first | rfl | (simp [errW_none, errW_some] <;> rfl) | (simp [*, errW_none, errW_some] <;> rfl), bel_⟩
        rw [if_neg c25] at H
        have c25b0 : (x156000_1 == 3) = false := beq_eq_false_iff_ne.mpr c25
        have c25b1 : (x156000_1 != 3) = true := bne_iff_ne.mpr c25
        replace H := Option.bind_eq_some_iff.mp H
        obtain ⟨⟨t174, t175⟩, A880, H⟩ := H
        replace H : (if t168 = true then (some (0, 0, (⟨#[]⟩ : ByteArray), 0, 4)) else (if t175 = 0 then (if t174.toList = a0.toList then (some (x156000_1, (t166) % 4294967296, t167, 0, 0)) else (some (0, 0, (⟨#[]⟩ : ByteArray), 0, 4))) else (some (0, 0, (⟨#[]⟩ : ByteArray), 0, 4)))) = some (r1, r2, r3, r4, r5) := H
        have A88 := Aside0.mk A880
        clear A880
        by_cases c89 : t168 = true
        · subst c89
          have H1 : (some (0, 0, (⟨#[]⟩ : ByteArray), 0, 4)) = some (r1, r2, r3, r4, r5) := by rw [if_pos rfl] at H; exact H
          clear H
          have H := H1
          clear H1
          simp only [Option.some.injEq, Prod.mk.injEq] at H
          obtain ⟨rfl, rfl, rfl, rfl, rfl⟩ := H
          go_wp2_with (first | ((with_reducible refine gate_dst (N := 29) rfl ?_); refine bx_ (N := 29) (cs := #[.string (a0.extract 1 a0.size), .bool false]) (t := 106) ?_; intro gb165 hg w90 hbox hb; have BK165 := Aside0.mk (hbox); have GW165 := ge_ hg; have GE165 := ge_ hg; have NB153_165 := nl_ BK153 hg; have NB165_153 := ng_ BK153 hg; have NB154_165 := nl_ BK154 hg; have NB165_154 := ng_ BK154 hg; have NB155_165 := nl_ BK155 hg; have NB165_155 := ng_ BK155 hg; replace BK153 := kb_ BK153 hb; replace BK154 := kb_ BK154 hb; replace BK155 := kb_ BK155 hb; replace HB := hb_ hb; clear hb hbox hg) | ((with_reducible refine gate_callee (f := 42) rfl ?_); refine gl_ (some 31) Tryz.func42 #[.pointer (some ⟨gb165, 0, none⟩), .int .i64 4] ?_; (with_reducible refine (inode_taker_number.calls k1 gb165 (a0.extract 1 a0.size) false 4 t166 t167 true w _ ?side1 ?side2 A24.out).mono ?_); (case side1 => exact ⟨(bk_ BK165), GE165.out⟩); (case side2 => repeat (first | (with_reducible first | exact HB.out | apply below_alloc | apply pw_below_drewN | apply below_drew1 | refine below_set ?_ GE153.out | refine below_set ?_ GE154.out | refine below_set ?_ GE155.out | refine below_set ?_ GE165.out) | exact HB.out)); rintro e w91 ⟨rfl, hi, hb, hk⟩; refine ⟨_, rfl, ?_⟩; replace BK153 := Aside0.mk (KeepBut.blk hk (g' := gb153) (o := .cells #[.int .u8 0, .int .u32 0, .string (⟨#[]⟩ : ByteArray), .int .u32 0] 71 (0, 0)) (bk_ BK153) NB153_165.out (by simp)); replace BK154 := Aside0.mk (KeepBut.blk hk (g' := gb154) (o := .cells #[.int .u32 x155000_1, .int .i32 x155001_1, .int .u32 x155002_1, .int .u8 x155003_1, .int .u8 x155004_1, .int .u8 x155005_1, .int .u8 x155006_1, .int .u8 x155007_1] 102 (0, 0)) (bk_ BK154) NB154_165.out (by simp)); replace BK155 := Aside0.mk (KeepBut.blk hk (g' := gb155) (o := .cells #[.int .u8 x156000_1, .int .u32 0, .string (⟨#[]⟩ : ByteArray), .int .u32 0] 71 (0, 0)) (bk_ BK155) NB155_165.out (by simp)); replace HB := Aside0.mk (hb); replace BK165 := Aside0.mk (hi.1); (try clear hb); (try clear hb2); (try clear hk); (try clear hi); have hnb92 := NB155_153.out; have hnc92 := NB153_155.out; have hnb93 := NB155_154.out; have hnc93 := NB154_155.out; have hnb94 := NB155_165.out; have hnc94 := NB165_155.out; obtain ⟨hcz95_0, hcz95_1, hcz95_2, hcz95_3⟩ := cl4_ BK155; obtain ⟨hfz95_0, hfz95_1, hfz95_2, hfz95_3⟩ := fz4_ BK155; have hnb96 := NB165_153.out; have hnc96 := NB153_165.out; have hnb97 := NB165_154.out; have hnc97 := NB154_165.out; obtain ⟨hcz98_0, hcz98_1⟩ := cl2_ BK165; obtain ⟨hfz98_0, hfz98_1⟩ := fz2_ BK165) | ((with_reducible refine gate_callee (f := 43) rfl ?_); refine gl_ (some 48) Tryz.func43 #[.agg #[.int .u8 x156000_1, .int .u32 ((t166) % 4294967296), .string t167, .int .u32 0]] ?_; (with_reducible refine (inode_Key.calls k1 x156000_1 ((t166) % 4294967296) t167 0 t174 t175 _ A88.out).mono ?_); rintro e w99 ⟨rfl, hb⟩; refine ⟨_, rfl, ?_⟩; replace BK153 := Aside0.mk (blk_below (g := gb153) (o := .cells #[.int .u8 0, .int .u32 0, .string (⟨#[]⟩ : ByteArray), .int .u32 0] 71 (0, 0)) (bs_) hb); replace BK154 := Aside0.mk (blk_below (g := gb154) (o := .cells #[.int .u32 x155000_1, .int .i32 x155001_1, .int .u32 x155002_1, .int .u8 x155003_1, .int .u8 x155004_1, .int .u8 x155005_1, .int .u8 x155006_1, .int .u8 x155007_1] 102 (0, 0)) (bs_) hb); replace BK155 := Aside0.mk (blk_below (g := gb155) (o := .cells #[.int .u8 x156000_1, .int .u32 ((t166) % 4294967296), .string t167, .int .u32 0] 71 (0, 0)) (bs_) hb); replace BK165 := Aside0.mk (blk_below (g := gb165) (o := .cells #[.string t167, .bool true] 106 (0, 0)) (bs_) hb); replace HB := hb_ hb; (try clear hb); (try clear hb2); (try clear hk); (try clear hi); obtain ⟨hcz100_0, hcz100_1⟩ := cl2_ BK165; obtain ⟨hfz100_0, hfz100_1⟩ := fz2_ BK165; have hnb101 := NB153_154.out; have hnc101 := NB154_153.out; obtain ⟨hcz102_0, hcz102_1, hcz102_2, hcz102_3⟩ := cl4_ BK153; obtain ⟨hfz102_0, hfz102_1, hfz102_2, hfz102_3⟩ := fz4_ BK153))
          refine bodyPost_ret (results_ct rfl _ _ gb153 71 #[.int .u8 0, .int .u32 0, .string (⟨#[]⟩ : ByteArray), .int .u32 0] (0, 0) _ rfl (bs_) Tryz.underlying71 rfl (by kernel_rfl)) rfl ?_
          exact ⟨by first | rfl | (simp [errW_none, errW_some] <;> rfl) | (simp [*, errW_none, errW_some] <;> rfl), bel_⟩
        replace c89 := Bool.eq_false_iff.mpr c89
        subst c89
        have H1 : (if t175 = 0 then (if t174.toList = a0.toList then (some (x156000_1, (t166) % 4294967296, t167, 0, 0)) else (some (0, 0, (⟨#[]⟩ : ByteArray), 0, 4))) else (some (0, 0, (⟨#[]⟩ : ByteArray), 0, 4))) = some (r1, r2, r3, r4, r5) := by rw [if_neg (show ¬ (false = true) by decide)] at H; exact H
        clear H
        have H := H1
        clear H1
        by_cases c103 : t175 = 0
        · rw [if_pos c103] at H
          have c103b0 : (t175 == 0) = true := beq_iff_eq.mpr c103
          have c103b1 : (t175 != 0) = false := bne_eq_false_iff_eq.mpr c103
          clear c103
          by_cases c104 : t174.toList = a0.toList
          · rw [if_pos c104] at H
            have c104b0 : (t174.toList == a0.toList) = true := beq_iff_eq.mpr c104
            have c104b1 : (t174.toList != a0.toList) = false := bne_eq_false_iff_eq.mpr c104
            clear c104
            simp only [Option.some.injEq, Prod.mk.injEq] at H
            obtain ⟨rfl, rfl, rfl, rfl, rfl⟩ := H
            go_wp2_with (first | ((with_reducible refine gate_dst (N := 29) rfl ?_); refine bx_ (N := 29) (cs := #[.string (a0.extract 1 a0.size), .bool false]) (t := 106) ?_; intro gb165 hg w105 hbox hb; have BK165 := Aside0.mk (hbox); have GW165 := ge_ hg; have GE165 := ge_ hg; have NB153_165 := nl_ BK153 hg; have NB165_153 := ng_ BK153 hg; have NB154_165 := nl_ BK154 hg; have NB165_154 := ng_ BK154 hg; have NB155_165 := nl_ BK155 hg; have NB165_155 := ng_ BK155 hg; replace BK153 := kb_ BK153 hb; replace BK154 := kb_ BK154 hb; replace BK155 := kb_ BK155 hb; replace HB := hb_ hb; clear hb hbox hg) | ((with_reducible refine gate_callee (f := 42) rfl ?_); refine gl_ (some 31) Tryz.func42 #[.pointer (some ⟨gb165, 0, none⟩), .int .i64 4] ?_; (with_reducible refine (inode_taker_number.calls k1 gb165 (a0.extract 1 a0.size) false 4 t166 t167 false w _ ?side1 ?side2 A24.out).mono ?_); (case side1 => exact ⟨(bk_ BK165), GE165.out⟩); (case side2 => repeat (first | (with_reducible first | exact HB.out | apply below_alloc | apply pw_below_drewN | apply below_drew1 | refine below_set ?_ GE153.out | refine below_set ?_ GE154.out | refine below_set ?_ GE155.out | refine below_set ?_ GE165.out) | exact HB.out)); rintro e w106 ⟨rfl, hi, hb, hk⟩; refine ⟨_, rfl, ?_⟩; replace BK153 := Aside0.mk (KeepBut.blk hk (g' := gb153) (o := .cells #[.int .u8 0, .int .u32 0, .string (⟨#[]⟩ : ByteArray), .int .u32 0] 71 (0, 0)) (bk_ BK153) NB153_165.out (by simp)); replace BK154 := Aside0.mk (KeepBut.blk hk (g' := gb154) (o := .cells #[.int .u32 x155000_1, .int .i32 x155001_1, .int .u32 x155002_1, .int .u8 x155003_1, .int .u8 x155004_1, .int .u8 x155005_1, .int .u8 x155006_1, .int .u8 x155007_1] 102 (0, 0)) (bk_ BK154) NB154_165.out (by simp)); replace BK155 := Aside0.mk (KeepBut.blk hk (g' := gb155) (o := .cells #[.int .u8 x156000_1, .int .u32 0, .string (⟨#[]⟩ : ByteArray), .int .u32 0] 71 (0, 0)) (bk_ BK155) NB155_165.out (by simp)); replace HB := Aside0.mk (hb); replace BK165 := Aside0.mk (hi.1); (try clear hb); (try clear hb2); (try clear hk); (try clear hi); have hnb107 := NB155_153.out; have hnc107 := NB153_155.out; have hnb108 := NB155_154.out; have hnc108 := NB154_155.out; have hnb109 := NB155_165.out; have hnc109 := NB165_155.out; obtain ⟨hcz110_0, hcz110_1, hcz110_2, hcz110_3⟩ := cl4_ BK155; obtain ⟨hfz110_0, hfz110_1, hfz110_2, hfz110_3⟩ := fz4_ BK155; have hnb111 := NB165_153.out; have hnc111 := NB153_165.out; have hnb112 := NB165_154.out; have hnc112 := NB154_165.out; obtain ⟨hcz113_0, hcz113_1⟩ := cl2_ BK165; obtain ⟨hfz113_0, hfz113_1⟩ := fz2_ BK165) | ((with_reducible refine gate_callee (f := 43) rfl ?_); refine gl_ (some 48) Tryz.func43 #[.agg #[.int .u8 x156000_1, .int .u32 ((t166) % 4294967296), .string t167, .int .u32 0]] ?_; (with_reducible refine (inode_Key.calls k1 x156000_1 ((t166) % 4294967296) t167 0 t174 t175 _ A88.out).mono ?_); rintro e w114 ⟨rfl, hb⟩; refine ⟨_, rfl, ?_⟩; replace BK153 := Aside0.mk (blk_below (g := gb153) (o := .cells #[.int .u8 0, .int .u32 0, .string (⟨#[]⟩ : ByteArray), .int .u32 0] 71 (0, 0)) (bs_) hb); replace BK154 := Aside0.mk (blk_below (g := gb154) (o := .cells #[.int .u32 x155000_1, .int .i32 x155001_1, .int .u32 x155002_1, .int .u8 x155003_1, .int .u8 x155004_1, .int .u8 x155005_1, .int .u8 x155006_1, .int .u8 x155007_1] 102 (0, 0)) (bs_) hb); replace BK155 := Aside0.mk (blk_below (g := gb155) (o := .cells #[.int .u8 x156000_1, .int .u32 ((t166) % 4294967296), .string t167, .int .u32 0] 71 (0, 0)) (bs_) hb); replace BK165 := Aside0.mk (blk_below (g := gb165) (o := .cells #[.string t167, .bool false] 106 (0, 0)) (bs_) hb); replace HB := hb_ hb; (try clear hb); (try clear hb2); (try clear hk); (try clear hi); obtain ⟨hcz115_0, hcz115_1⟩ := cl2_ BK165; obtain ⟨hfz115_0, hfz115_1⟩ := fz2_ BK165; obtain ⟨hcz116_0, hcz116_1, hcz116_2, hcz116_3⟩ := cl4_ BK155; obtain ⟨hfz116_0, hfz116_1, hfz116_2, hfz116_3⟩ := fz4_ BK155; have hnb117 := NB153_154.out; have hnc117 := NB154_153.out; obtain ⟨hcz118_0, hcz118_1, hcz118_2, hcz118_3⟩ := cl4_ BK153; obtain ⟨hfz118_0, hfz118_1, hfz118_2, hfz118_3⟩ := fz4_ BK153))
            refine bodyPost_ret (results_ct rfl _ _ gb153 71 #[.int .u8 x156000_1, .int .u32 ((t166) % 4294967296), .string t167, .int .u32 0] (0, 0) _ rfl (bs_) Tryz.underlying71 rfl (by kernel_rfl)) rfl ?_
            exact ⟨by first | rfl | (simp [errW_none, errW_some] <;> rfl) | (simp [*, errW_none, errW_some] <;> rfl), bel_⟩
          rw [if_neg c104] at H
          have c104b0 : (t174.toList == a0.toList) = false := beq_eq_false_iff_ne.mpr c104
          have c104b1 : (t174.toList != a0.toList) = true := bne_iff_ne.mpr c104
          simp only [Option.some.injEq, Prod.mk.injEq] at H
          obtain ⟨rfl, rfl, rfl, rfl, rfl⟩ := H
          go_wp2_with (first | ((with_reducible refine gate_dst (N := 29) rfl ?_); refine bx_ (N := 29) (cs := #[.string (a0.extract 1 a0.size), .bool false]) (t := 106) ?_; intro gb165 hg w119 hbox hb; have BK165 := Aside0.mk (hbox); have GW165 := ge_ hg; have GE165 := ge_ hg; have NB153_165 := nl_ BK153 hg; have NB165_153 := ng_ BK153 hg; have NB154_165 := nl_ BK154 hg; have NB165_154 := ng_ BK154 hg; have NB155_165 := nl_ BK155 hg; have NB165_155 := ng_ BK155 hg; replace BK153 := kb_ BK153 hb; replace BK154 := kb_ BK154 hb; replace BK155 := kb_ BK155 hb; replace HB := hb_ hb; clear hb hbox hg) | ((with_reducible refine gate_callee (f := 42) rfl ?_); refine gl_ (some 31) Tryz.func42 #[.pointer (some ⟨gb165, 0, none⟩), .int .i64 4] ?_; (with_reducible refine (inode_taker_number.calls k1 gb165 (a0.extract 1 a0.size) false 4 t166 t167 false w _ ?side1 ?side2 A24.out).mono ?_); (case side1 => exact ⟨(bk_ BK165), GE165.out⟩); (case side2 => repeat (first | (with_reducible first | exact HB.out | apply below_alloc | apply pw_below_drewN | apply below_drew1 | refine below_set ?_ GE153.out | refine below_set ?_ GE154.out | refine below_set ?_ GE155.out | refine below_set ?_ GE165.out) | exact HB.out)); rintro e w120 ⟨rfl, hi, hb, hk⟩; refine ⟨_, rfl, ?_⟩; replace BK153 := Aside0.mk (KeepBut.blk hk (g' := gb153) (o := .cells #[.int .u8 0, .int .u32 0, .string (⟨#[]⟩ : ByteArray), .int .u32 0] 71 (0, 0)) (bk_ BK153) NB153_165.out (by simp)); replace BK154 := Aside0.mk (KeepBut.blk hk (g' := gb154) (o := .cells #[.int .u32 x155000_1, .int .i32 x155001_1, .int .u32 x155002_1, .int .u8 x155003_1, .int .u8 x155004_1, .int .u8 x155005_1, .int .u8 x155006_1, .int .u8 x155007_1] 102 (0, 0)) (bk_ BK154) NB154_165.out (by simp)); replace BK155 := Aside0.mk (KeepBut.blk hk (g' := gb155) (o := .cells #[.int .u8 x156000_1, .int .u32 0, .string (⟨#[]⟩ : ByteArray), .int .u32 0] 71 (0, 0)) (bk_ BK155) NB155_165.out (by simp)); replace HB := Aside0.mk (hb); replace BK165 := Aside0.mk (hi.1); (try clear hb); (try clear hb2); (try clear hk); (try clear hi); have hnb121 := NB155_153.out; have hnc121 := NB153_155.out; have hnb122 := NB155_154.out; have hnc122 := NB154_155.out; have hnb123 := NB155_165.out; have hnc123 := NB165_155.out; obtain ⟨hcz124_0, hcz124_1, hcz124_2, hcz124_3⟩ := cl4_ BK155; obtain ⟨hfz124_0, hfz124_1, hfz124_2, hfz124_3⟩ := fz4_ BK155; have hnb125 := NB165_153.out; have hnc125 := NB153_165.out; have hnb126 := NB165_154.out; have hnc126 := NB154_165.out; obtain ⟨hcz127_0, hcz127_1⟩ := cl2_ BK165; obtain ⟨hfz127_0, hfz127_1⟩ := fz2_ BK165) | ((with_reducible refine gate_callee (f := 43) rfl ?_); refine gl_ (some 48) Tryz.func43 #[.agg #[.int .u8 x156000_1, .int .u32 ((t166) % 4294967296), .string t167, .int .u32 0]] ?_; (with_reducible refine (inode_Key.calls k1 x156000_1 ((t166) % 4294967296) t167 0 t174 t175 _ A88.out).mono ?_); rintro e w128 ⟨rfl, hb⟩; refine ⟨_, rfl, ?_⟩; replace BK153 := Aside0.mk (blk_below (g := gb153) (o := .cells #[.int .u8 0, .int .u32 0, .string (⟨#[]⟩ : ByteArray), .int .u32 0] 71 (0, 0)) (bs_) hb); replace BK154 := Aside0.mk (blk_below (g := gb154) (o := .cells #[.int .u32 x155000_1, .int .i32 x155001_1, .int .u32 x155002_1, .int .u8 x155003_1, .int .u8 x155004_1, .int .u8 x155005_1, .int .u8 x155006_1, .int .u8 x155007_1] 102 (0, 0)) (bs_) hb); replace BK155 := Aside0.mk (blk_below (g := gb155) (o := .cells #[.int .u8 x156000_1, .int .u32 ((t166) % 4294967296), .string t167, .int .u32 0] 71 (0, 0)) (bs_) hb); replace BK165 := Aside0.mk (blk_below (g := gb165) (o := .cells #[.string t167, .bool false] 106 (0, 0)) (bs_) hb); replace HB := hb_ hb; (try clear hb); (try clear hb2); (try clear hk); (try clear hi); obtain ⟨hcz129_0, hcz129_1⟩ := cl2_ BK165; obtain ⟨hfz129_0, hfz129_1⟩ := fz2_ BK165; have hnb130 := NB153_154.out; have hnc130 := NB154_153.out; obtain ⟨hcz131_0, hcz131_1, hcz131_2, hcz131_3⟩ := cl4_ BK153; obtain ⟨hfz131_0, hfz131_1, hfz131_2, hfz131_3⟩ := fz4_ BK153))
          refine bodyPost_ret (results_ct rfl _ _ gb153 71 #[.int .u8 0, .int .u32 0, .string (⟨#[]⟩ : ByteArray), .int .u32 0] (0, 0) _ rfl (bs_) Tryz.underlying71 rfl (by kernel_rfl)) rfl ?_
          exact ⟨by first | rfl | (simp [errW_none, errW_some] <;> rfl) | (simp [*, errW_none, errW_some] <;> rfl), bel_⟩
        rw [if_neg c103] at H
        have c103b0 : (t175 == 0) = false := beq_eq_false_iff_ne.mpr c103
        have c103b1 : (t175 != 0) = true := bne_iff_ne.mpr c103
        simp only [Option.some.injEq, Prod.mk.injEq] at H
        obtain ⟨rfl, rfl, rfl, rfl, rfl⟩ := H
        go_wp2_with (first | ((with_reducible refine gate_dst (N := 29) rfl ?_); refine bx_ (N := 29) (cs := #[.string (a0.extract 1 a0.size), .bool false]) (t := 106) ?_; intro gb165 hg w132 hbox hb; have BK165 := Aside0.mk (hbox); have GW165 := ge_ hg; have GE165 := ge_ hg; have NB153_165 := nl_ BK153 hg; have NB165_153 := ng_ BK153 hg; have NB154_165 := nl_ BK154 hg; have NB165_154 := ng_ BK154 hg; have NB155_165 := nl_ BK155 hg; have NB165_155 := ng_ BK155 hg; replace BK153 := kb_ BK153 hb; replace BK154 := kb_ BK154 hb; replace BK155 := kb_ BK155 hb; replace HB := hb_ hb; clear hb hbox hg) | ((with_reducible refine gate_callee (f := 42) rfl ?_); refine gl_ (some 31) Tryz.func42 #[.pointer (some ⟨gb165, 0, none⟩), .int .i64 4] ?_; (with_reducible refine (inode_taker_number.calls k1 gb165 (a0.extract 1 a0.size) false 4 t166 t167 false w _ ?side1 ?side2 A24.out).mono ?_); (case side1 => exact ⟨(bk_ BK165), GE165.out⟩); (case side2 => repeat (first | (with_reducible first | exact HB.out | apply below_alloc | apply pw_below_drewN | apply below_drew1 | refine below_set ?_ GE153.out | refine below_set ?_ GE154.out | refine below_set ?_ GE155.out | refine below_set ?_ GE165.out) | exact HB.out)); rintro e w133 ⟨rfl, hi, hb, hk⟩; refine ⟨_, rfl, ?_⟩; replace BK153 := Aside0.mk (KeepBut.blk hk (g' := gb153) (o := .cells #[.int .u8 0, .int .u32 0, .string (⟨#[]⟩ : ByteArray), .int .u32 0] 71 (0, 0)) (bk_ BK153) NB153_165.out (by simp)); replace BK154 := Aside0.mk (KeepBut.blk hk (g' := gb154) (o := .cells #[.int .u32 x155000_1, .int .i32 x155001_1, .int .u32 x155002_1, .int .u8 x155003_1, .int .u8 x155004_1, .int .u8 x155005_1, .int .u8 x155006_1, .int .u8 x155007_1] 102 (0, 0)) (bk_ BK154) NB154_165.out (by simp)); replace BK155 := Aside0.mk (KeepBut.blk hk (g' := gb155) (o := .cells #[.int .u8 x156000_1, .int .u32 0, .string (⟨#[]⟩ : ByteArray), .int .u32 0] 71 (0, 0)) (bk_ BK155) NB155_165.out (by simp)); replace HB := Aside0.mk (hb); replace BK165 := Aside0.mk (hi.1); (try clear hb); (try clear hb2); (try clear hk); (try clear hi); have hnb134 := NB155_153.out; have hnc134 := NB153_155.out; have hnb135 := NB155_154.out; have hnc135 := NB154_155.out; have hnb136 := NB155_165.out; have hnc136 := NB165_155.out; obtain ⟨hcz137_0, hcz137_1, hcz137_2, hcz137_3⟩ := cl4_ BK155; obtain ⟨hfz137_0, hfz137_1, hfz137_2, hfz137_3⟩ := fz4_ BK155; have hnb138 := NB165_153.out; have hnc138 := NB153_165.out; have hnb139 := NB165_154.out; have hnc139 := NB154_165.out; obtain ⟨hcz140_0, hcz140_1⟩ := cl2_ BK165; obtain ⟨hfz140_0, hfz140_1⟩ := fz2_ BK165) | ((with_reducible refine gate_callee (f := 43) rfl ?_); refine gl_ (some 48) Tryz.func43 #[.agg #[.int .u8 x156000_1, .int .u32 ((t166) % 4294967296), .string t167, .int .u32 0]] ?_; (with_reducible refine (inode_Key.calls k1 x156000_1 ((t166) % 4294967296) t167 0 t174 t175 _ A88.out).mono ?_); rintro e w141 ⟨rfl, hb⟩; refine ⟨_, rfl, ?_⟩; replace BK153 := Aside0.mk (blk_below (g := gb153) (o := .cells #[.int .u8 0, .int .u32 0, .string (⟨#[]⟩ : ByteArray), .int .u32 0] 71 (0, 0)) (bs_) hb); replace BK154 := Aside0.mk (blk_below (g := gb154) (o := .cells #[.int .u32 x155000_1, .int .i32 x155001_1, .int .u32 x155002_1, .int .u8 x155003_1, .int .u8 x155004_1, .int .u8 x155005_1, .int .u8 x155006_1, .int .u8 x155007_1] 102 (0, 0)) (bs_) hb); replace BK155 := Aside0.mk (blk_below (g := gb155) (o := .cells #[.int .u8 x156000_1, .int .u32 ((t166) % 4294967296), .string t167, .int .u32 0] 71 (0, 0)) (bs_) hb); replace BK165 := Aside0.mk (blk_below (g := gb165) (o := .cells #[.string t167, .bool false] 106 (0, 0)) (bs_) hb); replace HB := hb_ hb; (try clear hb); (try clear hb2); (try clear hk); (try clear hi); obtain ⟨hcz142_0, hcz142_1⟩ := cl2_ BK165; obtain ⟨hfz142_0, hfz142_1⟩ := fz2_ BK165; have hnb143 := NB153_154.out; have hnc143 := NB154_153.out; obtain ⟨hcz144_0, hcz144_1, hcz144_2, hcz144_3⟩ := cl4_ BK153; obtain ⟨hfz144_0, hfz144_1, hfz144_2, hfz144_3⟩ := fz4_ BK153))
        refine bodyPost_ret (results_ct rfl _ _ gb153 71 #[.int .u8 0, .int .u32 0, .string (⟨#[]⟩ : ByteArray), .int .u32 0] (0, 0) _ rfl (bs_) Tryz.underlying71 rfl (by kernel_rfl)) rfl ?_
        exact ⟨by first | rfl | (simp [errW_none, errW_some] <;> rfl) | (simp [*, errW_none, errW_some] <;> rfl), bel_⟩
      rw [if_neg c23] at H
      exact absurd H (by simp)

end Go.Proofs.YtnngbhdofgodiaaGreatDoor.Z
end

section
/- What numbers', texts', inodes' and keys' functions come to. -/
namespace Go.Proofs.YtnngbhdofgodiaaGreatDoor.Z
open Go.RowKit Go.Proofs.YtnngbhdofgodiaaGreatDoorW.PrintWords Go.Proofs.YtnngbhdofgodiaaGreatDoorW.PrintLast Go.Proofs.YtnngbhdofgodiaaGreatDoorW.PrintMore Go.Proofs.YtnngbhdofgodiaaGreatDoor.PM
set_option linter.unusedVariables false
/-! ### Numbers -/
theorem bitLenAux_le : ∀ (f m x : Nat), x < 2 ^ m → Lib.bitLenAux f x ≤ m
  | 0, m, x, h => by simp [Lib.bitLenAux]
  | f + 1, m, x, h => by
    unfold Lib.bitLenAux
    by_cases h0 : x = 0
    · rw [if_pos h0]; omega
    · rw [if_neg h0]
      match m, h with
      | 0, h => simp at h; omega
      | m + 1, h =>
        have := bitLenAux_le f m (x / 2) (by rw [Nat.pow_succ] at h; omega)
        omega
theorem pow_two (w : Nat) : 256 ^ w = 2 ^ (8 * w) := by rw [Nat.pow_mul]
theorem nums_be : ∀ (l : List UInt8), strOfNums (l.map (fun b => (b.toNat : Int))) = ba l := by
  intro l
  unfold strOfNums ba
  rw [List.map_map]
  congr 2
  conv => rhs; rw [← List.map_id l]
  apply List.map_congr_left
  intro b _
  simp
def beI (w n : Nat) : List Int := (be w n).map (fun b => (b.toNat : Int))
theorem set_mid (a b : List Int) (x v : Int) {n : Nat} (h : a.length = n) : (a ++ x :: b).set n v = a ++ v :: b := by subst h; simp
theorem pow_cast (m : Nat) : ((2 : Int) ^ m) = ((2 ^ m : Nat) : Int) := by simp
theorem u64w {x : Int} (h0 : 0 ≤ x) (h1 : x < 18446744073709551616) : IntKind.u64.wrap x = x := IntWalk.u64_in x ⟨h0, by omega⟩
theorem number_l0 (n w : Nat) (hw : w ≤ 8) : ∀ d i : Nat, w = i + d →
    Ev (fun k => pack_Number.l0 k (n : Int) (w : Int) (List.replicate d 0 ++ beI i n) (w : Int) (i : Int)) (ba (be w n), 0)
  | 0, i, hi => by
    refine Ev.step (fun k => by rw [pack_Number.l0]) ?_
    refine Ev.ifn (by omega) (Ev.const ?_)
    obtain rfl : w = i := by omega
    rw [List.replicate_zero, List.nil_append]
    unfold beI
    rw [nums_be]
  | d + 1, i, hi => by
    refine Ev.step (fun k => by rw [pack_Number.l0]) ?_
    have e1 : wrap64 (8 * (i : Int)) = ((8 * i : Nat) : Int) := by rw [w64 (by omega) (by omega)]; omega
    have e2 : wrap64 (wrap64 ((w : Int) - 1) - (i : Int)) = (d : Int) := by rw [w64 (i := (w : Int) - 1) (by omega) (by omega), w64 (by omega) (by omega)]; omega
    have e3 : wrap64 ((i : Int) + 1) = ((i + 1 : Nat) : Int) := by rw [w64 (by omega) (by omega)]; omega
    have hl : (List.replicate (d + 1) (0 : Int) ++ beI i n).length = w := by unfold beI; rw [List.length_append, List.length_replicate, List.length_map, be_len]; omega
    rw [e1, e2, e3]
    refine Ev.ifp (by omega) (Ev.ifp (by omega) (Ev.ifp (by omega) (Ev.ifp (by rw [hl]; omega) ?_)))
    refine Ev.congr (fun k => ?_) (number_l0 n w hw d (i + 1) (by omega))
    have e4 : shr .u64 (n : Int) ((8 * i : Nat) : Int) % 256 = ((n / 256 ^ i % 256 : Nat) : Int) := by
      unfold shr
      rw [Int.toNat_natCast, show IntKind.u64.bits = 64 from rfl, Nat.min_eq_left (by omega), pow_cast, pow_two]
      simp
    have e5 : (List.replicate (d + 1) (0 : Int) ++ beI i n).set ((d : Int)).toNat (((n / 256 ^ i % 256 : Nat) : Int)) = List.replicate d 0 ++ beI (i + 1) n := by
      rw [Int.toNat_natCast, List.replicate_succ', List.append_assoc, List.singleton_append, set_mid _ _ _ _ (by simp)]
      congr 1
      unfold beI
      rw [be_cons, List.map_cons, ofNat_toNat]
    rw [e4, e5]
theorem number_f (n w : Nat) (h1 : 1 ≤ w) (h8 : w ≤ 8) (hn : n < 256 ^ w) : Ev (fun k => pack_Number.f k (n : Int) (w : Int)) (ba (be w n), 0) := by
  unfold pack_Number.f
  have hp : 256 ^ w ≤ 256 ^ 8 := Nat.pow_le_pow_right (by decide) h8
  have hn8 : n < 18446744073709551616 := by have : 256 ^ 8 = 18446744073709551616 := rfl; omega
  have hb : bits_Len64.f (n : Int) = some ((Lib.bitLen n : Nat) : Int) := by
    unfold bits_Len64.f
    rw [if_pos ⟨by omega, by omega⟩, Int.toNat_natCast]
  have hl : Lib.bitLen n ≤ 8 * w := bitLenAux_le 64 (8 * w) n (by rw [← pow_two]; exact hn)
  refine Ev.ifn (by omega) (Ev.ifn (by omega) (Ev.bindc hb ?_))
  have e : decide (((Lib.bitLen n : Nat) : Int) > wrap64 (8 * (w : Int))) = false := by
    rw [w64 (by omega) (by omega)]; simp; omega
  rw [e]
  refine Ev.step (fun k => by rw [pack_Number.j0]) ?_
  refine Ev.ifn (by decide) (Ev.ifp (by omega) (Ev.ifp (by rw [Int.toNat_natCast]; omega) (Ev.bindc rfl ?_)))
  have h := number_l0 n w h8 w 0 (by omega)
  rw [show beI 0 n = [] from rfl, List.append_nil] at h
  rw [Int.toNat_natCast, List.length_replicate]
  exact h
theorem num_f (n : Int) (w : Nat) (h1 : 1 ≤ w) (h8 : w ≤ 8) (h0 : 0 ≤ n) (hn : n.toNat < 256 ^ w) : Ev (fun k => inode_number.f k (IntKind.u64.wrap n) (w : Int)) (ba (be w n.toNat)) := by
  unfold inode_number.f
  have hp : 256 ^ w ≤ 256 ^ 8 := Nat.pow_le_pow_right (by decide) h8
  have p8 : 256 ^ 8 = 18446744073709551616 := rfl
  rw [u64w h0 (by omega)]
  have e : n = ((n.toNat : Nat) : Int) := by omega
  have h := number_f n.toNat w h1 h8 hn
  rw [← e] at h
  exact Ev.bind h (Ev.const rfl)
/-! ### Numbers from bytes -/
/-- So many bytes from the front: their number, what is left, whether they were there. -/
def takeS (w : Nat) (l : List UInt8) : Int × List UInt8 × Int := (if l.length < w then 0 else (num (l.take w) : Int), l.drop w, if l.length < w then 3 else 0)
def ba3 (x : Int × List UInt8 × Int) : Int × ByteArray × Int := (x.1, ba x.2.1, x.2.2)
theorem or_num (x : Nat) (b : Int) (hx : x < 72057594037927936) (h0 : 0 ≤ b) (h1 : b < 256) : Go.bits .or .u64 (IntKind.u64.wrap ((x : Int) * 256)) (IntKind.u64.wrap b) = ((x : Nat) : Int) * 256 + b := by
  rw [u64w (by omega) (by omega), u64w (by omega) (by omega)]
  exact bits_join .u64 64 (by decide) (fun n h0 h1 => u64w h0 (by simpa using h1)) 8 _ _ (by omega) (by omega) (by simp; omega) h0 (by simpa using h1) (by simp; omega)
theorem drop_nil_of {l : List UInt8} {w : Nat} (h : l.length < w) : l.drop w = [] := List.drop_eq_nil_of_le (by omega)
theorem take_num_snoc (l : List UInt8) (i : Nat) (h : i < l.length) : num (l.take (i + 1)) = num (l.take i) * 256 + (l[i]).toNat := by
  rw [List.take_succ_eq_append_getElem h, num_snoc]
theorem ext_end (a : ByteArray) (n : Nat) : a.extract n a.size = ba (a.data.toList.drop n) := by
  have hz := size_len a
  rw [Lib.extract_eq, List.take_of_length_le (by rw [List.length_drop]; omega)]
  rfl
theorem ext_front (a : ByteArray) (n : Nat) : a.extract 0 n = ba (a.data.toList.take n) := by
  rw [Lib.extract_eq]
  rfl
theorem tnum_l0 (a : ByteArray) (w : Nat) (hw : w ≤ 8) (hl : w ≤ a.data.toList.length) : ∀ d i : Nat, w = i + d →
    Ev (fun k => pack_TakeNumber.l0 k a (w : Int) (num (a.data.toList.take i) : Int) (w : Int) (i : Int)) ((num (a.data.toList.take w) : Int), ba (a.data.toList.drop w), 0)
  | 0, i, hi => by
    refine Ev.step (fun k => by rw [pack_TakeNumber.l0]) ?_
    have hz := size_len a
    obtain rfl : w = i := by omega
    refine Ev.ifn (by omega) (Ev.ifp (by omega) (Ev.ifp (by omega) (Ev.const ?_)))
    rw [Int.toNat_natCast, ext_end]
  | d + 1, i, hi => by
    refine Ev.step (fun k => by rw [pack_TakeNumber.l0]) ?_
    have hz := size_len a
    have hlt : i < a.data.toList.length := by omega
    have e3 : wrap64 ((i : Int) + 1) = ((i + 1 : Nat) : Int) := by rw [w64 (by omega) (by omega)]; omega
    have hn := num_lt i (a.data.toList.take i) (by rw [List.length_take]; omega)
    have hp : 256 ^ i ≤ 256 ^ 7 := Nat.pow_le_pow_right (by decide) (by omega)
    have p7 : 256 ^ 7 = 72057594037927936 := rfl
    have hb := (a.data.toList[i]).toNat_lt
    refine Ev.ifp (by omega) (Ev.ifp (by omega) (Ev.ifp (by omega) ?_))
    rw [bt_get a i hlt, or_num _ _ (by omega) (by omega) (by omega), e3]
    have ih := tnum_l0 a w hw hl d (i + 1) (by omega)
    rw [take_num_snoc _ _ hlt] at ih
    refine Ev.congr (fun k => ?_) ih
    congr 1
theorem tnum_f (a : ByteArray) (w : Nat) (h1 : 1 ≤ w) (h8 : w ≤ 8) : Ev (fun k => pack_TakeNumber.f k a (w : Int)) (ba3 (takeS w a.data.toList)) := by
  unfold pack_TakeNumber.f
  have hz := size_len a
  refine Ev.ifn (by omega) ?_
  rw [show decide ((w : Int) > 8) = false by simp; omega]
  refine Ev.step (fun k => by rw [pack_TakeNumber.j0]) ?_
  refine Ev.ifn (by decide) ?_
  by_cases h : a.data.toList.length < w
  · refine Ev.ifp (by omega) (Ev.const ?_)
    unfold ba3 takeS
    rw [if_pos h, if_pos h, drop_nil_of h]
    rfl
  · refine Ev.ifn (by omega) ?_
    refine Ev.val (tnum_l0 a w h8 (by omega) w 0 (by omega)) ?_
    unfold ba3 takeS
    rw [if_neg h, if_neg h]
theorem tknum_f (a : ByteArray) (bad : Bool) (w : Nat) (h1 : 1 ≤ w) (h8 : w ≤ 8) :
    Ev (fun k => inode_taker_number.f k a bad (w : Int)) ((takeS w a.data.toList).1, ba (a.data.toList.drop w), bad || decide (a.data.toList.length < w)) := by
  unfold inode_taker_number.f
  refine Ev.bind (tnum_f a w h1 h8) ?_
  unfold ba3 takeS
  cases bad
  · refine Ev.ifn (by decide) (Ev.const ?_)
    by_cases h : a.data.toList.length < w
    · simp only [if_pos h, decide_eq_true h]; rfl
    · simp only [if_neg h, decide_eq_false h]; rfl
  · exact Ev.ifp rfl (Ev.const (by simp))
/-- A text from the front. -/
def textS (l : List UInt8) : List UInt8 × List UInt8 × Int :=
  if l.length < 2 then ([], [], 3) else if (l.drop 2).length < num (l.take 2) then ([], [], 3) else ((l.drop 2).take (num (l.take 2)), (l.drop 2).drop (num (l.take 2)), 0)
/-! ### Inodes -/
theorem okN_size {k l s : Int} {t : List UInt8} (h : okN k l s t = true) : t.length ≤ 64 := by
  unfold okN at h
  rcases of_decide_eq_true h with h | h | h
  · rw [h.2.2.2]; decide
  · rw [h.2.2.2]; decide
  · exact h.2.2.2.1
def baI (x : Ino) : Int × Int × Int × Int × ByteArray × Int := (x.1, x.2.1, x.2.2.1, x.2.2.2.1, ba x.2.2.2.2.1, x.2.2.2.2.2)
theorem u16w {x : Int} (h0 : 0 ≤ x) (h1 : x < 65536) : IntKind.u16.wrap x = x := by
  simp only [IntKind.wrap, IntKind.bits, IntKind.signed]
  simp
  omega
end Go.Proofs.YtnngbhdofgodiaaGreatDoor.Z
end

section
/- What the functions on keys come to. -/
namespace Go.Proofs.YtnngbhdofgodiaaGreatDoor.Z
open Go.RowKit Go.Proofs.YtnngbhdofgodiaaGreatDoorW.PrintWords Go.Proofs.YtnngbhdofgodiaaGreatDoorW.PrintLast Go.Proofs.YtnngbhdofgodiaaGreatDoorW.PrintMore Go.Proofs.YtnngbhdofgodiaaGreatDoor.PM
set_option linter.unusedVariables false
theorem right_jt (x3 : Bool) (x8 : Int) (y0 y1 : Int) (a : ByteArray) (c : Int) : Ev (fun r => inode_right.j0 r x3 x8 true y0 y1 a c) (x3 && (nameL a.data.toList && c == 0)) := by
  refine Ev.step (fun k => by rw [inode_right.j0]) ?_
  refine Ev.ifp rfl ?_
  cases x3
  · exact Ev.ifn (by decide) (Ev.const rfl)
  · refine Ev.ifp rfl (Ev.bindc (name_f a) ?_)
    by_cases hn : nameL a.data.toList = true
    · exact Ev.ifp hn (Ev.const (by simp [hn]))
    · exact Ev.ifn hn (Ev.const (by simp [hn]))
theorem right_j3 (x3 : Bool) (y0 y1 : Int) (a : ByteArray) (c : Int) : Ev (fun r => inode_right.j0 r x3 3 false y0 y1 a c) (x3 && (decide (a.data.toList = []) && decide (c < 512))) := by
  refine Ev.step (fun k => by rw [inode_right.j0]) ?_
  refine Ev.ifn (by decide) (Ev.ifp rfl ?_)
  cases x3
  · exact Ev.ifn (by decide) (Ev.const rfl)
  · refine Ev.ifp rfl ?_
    rw [ByteArray.toList_eq]
    by_cases hn : a.data.toList = []
    · exact Ev.ifp hn (Ev.const (by simp [hn]))
    · exact Ev.ifn hn (Ev.const (by simp [hn]))
theorem right_jn (x3 : Bool) (x8 : Int) (h8 : ¬ x8 = 3) (y0 y1 : Int) (a : ByteArray) (c : Int) : Ev (fun r => inode_right.j0 r x3 x8 false y0 y1 a c) false := by
  refine Ev.step (fun k => by rw [inode_right.j0]) ?_
  exact Ev.ifn (by decide) (Ev.ifn h8 (Ev.const rfl))
theorem right_f (k i : Int) (a : ByteArray) (c : Int) : Ev (fun r => inode_right.f r k i a c) (rightK k i a.data.toList c) := by
  unfold inode_right.f
  have key : ∀ b : Bool, (b = true ↔ (0 < i ∧ (k = 1 ∧ a.data.toList = [] ∧ c = 0 ∨ (k = 2 ∨ k = 4) ∧ nameL a.data.toList = true ∧ c = 0 ∨ k = 3 ∧ a.data.toList = [] ∧ c < 512))) → b = rightK k i a.data.toList c := fun b h => by
    unfold rightK
    rw [Bool.eq_iff_iff, h, decide_eq_true_eq]
  by_cases h1 : k = 1
  · refine Ev.ifp h1 ?_
    subst h1
    by_cases hi : i > 0
    · refine Ev.ifp hi ?_
      rw [ByteArray.toList_eq]
      by_cases hn : a.data.toList = []
      · refine Ev.ifp hn (Ev.const (congrArg some (key _ ?_)))
        rw [beq_iff_eq]
        exact ⟨fun h => ⟨hi, .inl ⟨rfl, hn, h⟩⟩, fun h => by omega⟩
      · refine Ev.ifn hn (Ev.const (congrArg some (key _ ?_)))
        refine ⟨fun h => absurd h (by decide), fun h => ?_⟩
        rcases h.2 with h | h | h
        · exact absurd h.2.1 hn
        · omega
        · omega
    · refine Ev.ifn hi (Ev.const (congrArg some (key _ ?_)))
      exact ⟨fun h => absurd h (by decide), fun h => absurd h.1 hi⟩
  · refine Ev.ifn h1 ?_
    by_cases h2 : k = 2
    · refine Ev.ifp h2 ?_
      subst h2
      refine Ev.val (right_jt _ _ _ _ _ _) (key _ ?_)
      simp only [decide_eq_true_eq, Bool.and_eq_true, beq_iff_eq]
      refine ⟨fun h => ⟨h.1, .inr (.inl ⟨.inl trivial, h.2.1, h.2.2⟩)⟩, fun h => ⟨h.1, ?_⟩⟩
      rcases h.2 with h | h | h
      · omega
      · exact h.2
      · omega
    · refine Ev.ifn h2 ?_
      by_cases h4 : k = 4
      · subst h4
        refine Ev.val (right_jt _ _ _ _ _ _) (key _ ?_)
        simp only [decide_eq_true_eq, Bool.and_eq_true, beq_iff_eq]
        refine ⟨fun h => ⟨h.1, .inr (.inl ⟨.inr trivial, h.2.1, h.2.2⟩)⟩, fun h => ⟨h.1, ?_⟩⟩
        rcases h.2 with h | h | h
        · omega
        · exact h.2
        · omega
      · rw [show (k == 4) = false by simpa using h4]
        by_cases h3 : k = 3
        · subst h3
          refine Ev.val (right_j3 _ _ _ _ _) (key _ ?_)
          simp only [decide_eq_true_eq, Bool.and_eq_true]
          refine ⟨fun h => ⟨h.1, .inr (.inr ⟨trivial, h.2.1, h.2.2⟩)⟩, fun h => ⟨h.1, ?_⟩⟩
          rcases h.2 with h | h | h
          · omega
          · omega
          · exact h.2
        · refine Ev.val (right_jn _ _ h3 _ _ _ _) (key _ ?_)
          exact ⟨fun h => absurd h (by decide), fun h => by omega⟩
theorem letterOf_lett (k : Int) : (letterOf k = 0 ↔ lett k = []) ∧ letterB k = ba (lett k) := by
  unfold letterOf lett letterB
  by_cases h1 : k = 1
  · subst h1; exact ⟨by decide, rfl⟩
  · rw [if_neg h1, if_neg h1, if_neg h1]
    by_cases h2 : k = 2
    · subst h2; exact ⟨by decide, rfl⟩
    · rw [if_neg h2, if_neg h2, if_neg h2]
      by_cases h3 : k = 3
      · subst h3; exact ⟨by decide, rfl⟩
      · rw [if_neg h3, if_neg h3, if_neg h3]
        by_cases h4 : k = 4
        · subst h4; exact ⟨by decide, rfl⟩
        · rw [if_neg h4, if_neg h4, if_neg h4]
          exact ⟨by simp, rfl⟩
theorem prefix_f (k i : Int) (hk : 0 ≤ k) (hi : 0 ≤ i ∧ i < 4294967296) : Ev (fun r => inode_Prefix.f r k i) (ba (prefL k i)) := by
  unfold inode_Prefix.f prefL
  obtain ⟨h1, h2⟩ := letterOf_lett k
  refine Ev.ifp hk ?_
  by_cases h : letterOf k = 0
  · rw [if_pos (h1.1 h)]
    exact Ev.ifp h (Ev.const rfl)
  · rw [if_neg (fun e => h (h1.2 e))]
    refine Ev.ifn h (Ev.bind (num_f i 4 (by decide) (by decide) hi.1 (by rw [p4]; omega)) (Ev.ifp (by rw [ba_size, be_len]; omega) (Ev.const ?_)))
    rw [h2, ba_app]
theorem rightK_size {k i : Int} {nm : List UInt8} {c : Int} (h : rightK k i nm c = true) : nm.length ≤ 24 ∧ c < 512 := by
  unfold rightK at h
  rcases (of_decide_eq_true h).2 with h1 | h1 | h1
  · rw [h1.2.1]; exact ⟨by decide, by omega⟩
  · exact ⟨(nameL_iff.1 h1.2.1).2.1, by omega⟩
  · rw [h1.2.1]; exact ⟨by decide, by omega⟩
theorem key_f (k i : Int) (a : ByteArray) (c : Int) (hk : 0 ≤ k) (hi : 0 ≤ i ∧ i < 4294967296) (hc : 0 ≤ c) :
    Ev (fun r => inode_Key.f r k i a c) (ba (keyS k i a.data.toList c).1, (keyS k i a.data.toList c).2) := by
  unfold inode_Key.f keyS
  have hz := size_len a
  refine Ev.bind (right_f k i a c) ?_
  by_cases h : rightK k i a.data.toList c = true
  · rw [if_pos h]
    have hl := prefL_len (i := i) (lett_ne h)
    obtain ⟨hn, hc2⟩ := rightK_size h
    refine Ev.ifp h (Ev.bind (prefix_f k i hk hi) ?_)
    unfold keyL
    by_cases h3 : k = 3
    · rw [if_pos h3]
      refine Ev.ifp h3 (Ev.bind (num_f c 4 (by decide) (by decide) hc (by rw [p4]; omega)) (Ev.ifp (by rw [ba_size, ba_size, be_len]; omega) (Ev.const ?_)))
      rw [ba_app]
    · rw [if_neg h3]
      refine Ev.ifn h3 (Ev.ifp (by rw [ba_size]; omega) (Ev.const ?_))
      rw [← ba_app, data_ba]
  · rw [if_neg h]
    exact Ev.ifn h (Ev.const rfl)
/-! ### Parse -/
def baK (x : KeyT) : Int × Int × ByteArray × Int × Int := (x.1, x.2.1, ba x.2.2.1, x.2.2.2.1, x.2.2.2.2)
theorem parse_round (a : ByteArray) (x d c1 c2 c3 c4 K : Int) (hx : 0 ≤ x ∧ x < 5) (hs : 0 < a.size) (hd : d = 0 ∨ d = 1 ∧ c1 = 105 ∧ c2 = 100 ∧ c3 = 99 ∧ c4 = 120) {r : Int × Int × ByteArray × Int × Int}
    (h : Ev (fun k => inode_Parse.l0 k a (x + 1) 1 0 0 0 105 100 99 120 (if letterOf x = bt a 0 then x else K) 0 ⟨#[]⟩ 0) r) :
    Ev (fun k => inode_Parse.l0 k a x d 0 0 0 c1 c2 c3 c4 K 0 ⟨#[]⟩ 0) r := by
  refine Ev.step (fun k => by rw [inode_Parse.l0]) ?_
  have hf : inode_letters_letter.f d 0 0 0 c1 c2 c3 c4 x = some (letterOf x, 1, 0, 0, 0, 105, 100, 99, 120) := by
    unfold inode_letters_letter.f
    rw [if_pos ⟨hx.1, rfl, rfl, hd⟩]
  have he : (x + 1) % 256 = x + 1 := by omega
  refine Ev.ifp hx.2 (Ev.bindc hf (Ev.ifp (by omega) ?_))
  rw [he]
  by_cases hb : letterOf x = bt a 0
  · rw [if_pos hb] at h
    exact Ev.ifp hb h
  · rw [if_neg hb] at h
    exact Ev.ifn hb h
theorem parse_end (a : ByteArray) (K d c1 c2 c3 c4 : Int) (hK : K = g1 a.data.toList) (h5 : ¬ a.data.toList.length < 5) :
    Ev (fun k => inode_Parse.l0 k a 5 d 0 0 0 c1 c2 c3 c4 K 0 ⟨#[]⟩ 0) (baK (parsS a.data.toList)) := by
  refine Ev.step (fun k => by rw [inode_Parse.l0]) ?_
  have hz := size_len a
  have hr := g2_range h5
  have t1 := tknum_f (a.extract 1 a.size) false 4 (by decide) (by decide)
  have e0 : (a.extract 1 a.size).data.toList = a.data.toList.drop 1 := by rw [ext_end, ba_data]
  rw [e0] at t1
  have el : (a.data.toList.drop 1).length = a.data.toList.length - 1 := by simp
  have e1 : (takeS 4 (a.data.toList.drop 1)).1 = g2 a.data.toList := by unfold takeS; rw [if_neg (by omega)]; rfl
  have e2 : (false || decide ((a.data.toList.drop 1).length < 4)) = false := by simp only [Bool.false_or, decide_eq_false_iff_not]; omega
  rw [e1, e2] at t1
  refine Ev.ifn (by omega) (Ev.ifp (by omega) (Ev.bind t1 ?_))
  rw [Int.emod_eq_of_lt hr.1 hr.2]
  have e5 : (a.data.toList.drop 1).drop 4 = r5 a.data.toList := rfl
  simp only [e5]
  have ez : baK (0, 0, [], 0, 4) = (0, 0, ⟨#[]⟩, 0, 4) := rfl
  have lk : 0 ≤ g1 a.data.toList := by unfold g1 kindOf; repeat' split <;> omega
  by_cases h3 : K = 3
  · refine Ev.ifp h3 ?_
    have t2 := tknum_f (ba (r5 a.data.toList)) false 4 (by decide) (by decide)
    rw [ba_data] at t2
    refine Ev.bind t2 ?_
    have hg3 : g1 a.data.toList = 3 := by omega
    have hw := key_whole h5 (by rw [hg3]; decide)
    simp only [Bool.false_or]
    have hn0 : 0 ≤ (takeS 4 (r5 a.data.toList)).1 ∧ (takeS 4 (r5 a.data.toList)).1 < 4294967296 := by
      unfold takeS
      by_cases h4 : (r5 a.data.toList).length < 4
      · simp only [if_pos h4]; omega
      · simp only [if_neg h4]
        have := num_lt 4 ((r5 a.data.toList).take 4) (by rw [List.length_take]; omega)
        rw [p4] at this
        omega
    have bad : ¬ ((r5 a.data.toList).length = 4 ∧ rightK 3 (g2 a.data.toList) [] (num (r5 a.data.toList)) = true) → baK (parsS a.data.toList) = (0, 0, (⟨#[]⟩ : ByteArray), 0, 4) := by
      intro h
      unfold parsS
      rw [if_neg h5, if_pos hg3, if_neg h]
      rfl
    have good : (r5 a.data.toList).length = 4 ∧ rightK 3 (g2 a.data.toList) [] (num (r5 a.data.toList)) = true → baK (parsS a.data.toList) = (3, g2 a.data.toList, (⟨#[]⟩ : ByteArray), (num (r5 a.data.toList) : Int), 0) := by
      intro h
      unfold parsS
      rw [if_neg h5, if_pos hg3, if_pos h]
      rfl
    rw [Int.emod_eq_of_lt hn0.1 hn0.2]
    refine Ev.bind (key_f K (g2 a.data.toList) ⟨#[]⟩ _ (by omega) hr hn0.1) ?_
    by_cases h4 : (r5 a.data.toList).length < 4
    · rw [bad (fun h => by have := h.1; omega)]
      exact Ev.ifp (by simpa using h4) (Ev.const rfl)
    · refine Ev.ifn (by simpa using h4) ?_
      have en : (takeS 4 (r5 a.data.toList)).1 = (num ((r5 a.data.toList).take 4) : Int) := by unfold takeS; rw [if_neg h4]
      rw [en, h3]
      have e0 : (⟨#[]⟩ : ByteArray).data.toList = [] := rfl
      rw [e0]
      by_cases hok : rightK 3 (g2 a.data.toList) [] (num ((r5 a.data.toList).take 4)) = true
      · have hk : keyS 3 (g2 a.data.toList) [] (num ((r5 a.data.toList).take 4)) = (keyL 3 (g2 a.data.toList) [] (num ((r5 a.data.toList).take 4)), 0) := by unfold keyS; rw [if_pos hok]
        rw [hk]
        refine Ev.ifp rfl ?_
        have ek : (ba (keyL 3 (g2 a.data.toList) [] (num ((r5 a.data.toList).take 4)))).toList = prefL 3 (g2 a.data.toList) ++ (r5 a.data.toList).take 4 := by
          rw [ba_toList]
          unfold keyL
          rw [if_pos rfl, Int.toNat_natCast, be_num 4 _ (by rw [List.length_take]; omega)]
        have ea : a.toList = prefL 3 (g2 a.data.toList) ++ r5 a.data.toList := by rw [ByteArray.toList_eq, ← hg3, hw]
        by_cases h44 : (r5 a.data.toList).length = 4
        · have et : (r5 a.data.toList).take 4 = r5 a.data.toList := List.take_of_length_le (by omega)
          rw [et] at hok ek ⊢
          rw [good ⟨h44, hok⟩]
          exact Ev.ifp (by rw [ek, ea]) (Ev.const rfl)
        · rw [bad (fun h => h44 h.1)]
          refine Ev.ifn (fun h => ?_) (Ev.const rfl)
          have h := h
          simp only at h
          rw [ek, ea] at h
          have := congrArg List.length (List.append_cancel_left h)
          rw [List.length_take] at this
          omega
      · have hk : keyS 3 (g2 a.data.toList) [] (num ((r5 a.data.toList).take 4)) = ([], 4) := by unfold keyS; rw [if_neg hok]
        rw [hk, bad (fun h => by rw [List.take_of_length_le (by omega)] at hok; exact hok h.2)]
        exact Ev.ifn (by decide) (Ev.const rfl)
  · refine Ev.ifn h3 ?_
    have hg3 : ¬ g1 a.data.toList = 3 := by omega
    have hk := key_f K (g2 a.data.toList) (ba (r5 a.data.toList)) 0 (by omega) hr (by omega)
    rw [ba_data] at hk
    refine Ev.bind hk (Ev.ifn (by decide) ?_)
    rw [hK]
    by_cases hok : rightK (g1 a.data.toList) (g2 a.data.toList) (r5 a.data.toList) 0 = true
    · have hp : parsS a.data.toList = (g1 a.data.toList, g2 a.data.toList, r5 a.data.toList, 0, 0) := by unfold parsS; rw [if_neg h5, if_neg hg3, if_pos hok]
      have hk : keyS (g1 a.data.toList) (g2 a.data.toList) (r5 a.data.toList) 0 = (keyL (g1 a.data.toList) (g2 a.data.toList) (r5 a.data.toList) 0, 0) := by unfold keyS; rw [if_pos hok]
      rw [hp, hk]
      refine Ev.ifp rfl (Ev.ifp ?_ (Ev.const rfl))
      rw [ba_toList]
      unfold keyL
      rw [if_neg hg3, key_whole h5 (right_kind hok), ByteArray.toList_eq]
    · have hp : parsS a.data.toList = (0, 0, [], 0, 4) := by unfold parsS; rw [if_neg h5, if_neg hg3, if_neg hok]
      have hk : keyS (g1 a.data.toList) (g2 a.data.toList) (r5 a.data.toList) 0 = ([], 4) := by unfold keyS; rw [if_neg hok]
      rw [hp, hk]
      exact Ev.ifn (by decide) (Ev.const rfl)
theorem parse_f (a : ByteArray) (hs : a.size ≤ 9223372036854775807) : Ev (fun k => inode_Parse.f k a) (baK (parsS a.data.toList)) := by
  unfold inode_Parse.f
  have hz := size_len a
  by_cases h5 : a.data.toList.length < 5
  · refine Ev.ifp (by omega) (Ev.const ?_)
    unfold parsS
    rw [if_pos h5]
    rfl
  · refine Ev.ifn (by omega) ?_
    have hd : ∀ d c1 c2 c3 c4 : Int, d = 1 ∧ c1 = 105 ∧ c2 = 100 ∧ c3 = 99 ∧ c4 = 120 → (d = 0 ∨ d = 1 ∧ c1 = 105 ∧ c2 = 100 ∧ c3 = 99 ∧ c4 = 120) := fun _ _ _ _ _ h => .inr h
    refine parse_round a 1 0 0 0 0 0 0 (by decide) (by omega) (.inl rfl) ?_
    refine parse_round a (1 + 1) 1 105 100 99 120 _ (by decide) (by omega) (hd _ _ _ _ _ ⟨rfl, rfl, rfl, rfl, rfl⟩) ?_
    refine parse_round a (1 + 1 + 1) 1 105 100 99 120 _ (by decide) (by omega) (hd _ _ _ _ _ ⟨rfl, rfl, rfl, rfl, rfl⟩) ?_
    refine parse_round a (1 + 1 + 1 + 1) 1 105 100 99 120 _ (by decide) (by omega) (hd _ _ _ _ _ ⟨rfl, rfl, rfl, rfl, rfl⟩) ?_
    refine parse_end a _ 1 105 100 99 120 ?_ h5
    have hlt : 0 < a.data.toList.length := by omega
    have hb := bt_get a 0 hlt
    simp only [Int.ofNat_zero] at hb
    rw [show bt a 0 = ((a.data.toList[0]).toNat : Int) from hb]
    have hg : g1 a.data.toList = kindOf (a.data.toList[0]) := by
      unfold g1
      congr 1
      match a.data.toList, hlt with
      | b :: _, _ => rfl
    rw [hg]
    generalize a.data.toList[0] = b
    have q := fun n (hn : n < 256) => byte_eq b n hn
    have q1 := q 105 (by decide)
    have q2 := q 100 (by decide)
    have q3 := q 99 (by decide)
    have q4 := q 120 (by decide)
    have l1 : letterOf 1 = 105 := rfl
    have l2 : letterOf (1 + 1) = 100 := rfl
    have l3 : letterOf (1 + 1 + 1) = 99 := rfl
    have l4 : letterOf (1 + 1 + 1 + 1) = 120 := rfl
    rw [l1, l2, l3, l4]
    unfold kindOf
    by_cases h1 : b = 105
    · subst h1; rfl
    · by_cases h2 : b = 100
      · subst h2; rfl
      · by_cases h3 : b = 99
        · subst h3; rfl
        · by_cases h4 : b = 120
          · subst h4; rfl
          · rw [if_neg h1, if_neg h2, if_neg h3, if_neg h4, if_neg (fun e => h4 (q4.1 e.symm)), if_neg (fun e => h3 (q3.1 e.symm)), if_neg (fun e => h2 (q2.1 e.symm)), if_neg (fun e => h1 (q1.1 e.symm))]
end Go.Proofs.YtnngbhdofgodiaaGreatDoor.Z
end

section
-- Printed by a program of this session (mp.py) out of the translation.
namespace Go.Proofs.YtnngbhdofgodiaaGreatDoor.Z
open Go.RowKit Go.Proofs.YtnngbhdofgodiaaGreatDoorW.PrintWords Go.Proofs.YtnngbhdofgodiaaGreatDoorW.PrintLast Go.Proofs.YtnngbhdofgodiaaGreatDoorW.PrintMore
attribute [local go_sem] max2_int min2_int max_two min_two max_three min_three max_four min_four   -- for this text's walks alone
set_option linter.unusedVariables false
set_option linter.unusedSimpArgs false

/-! ### data_open_1: function 30 -/
def data_open_1.f (k : Nat) (a0_0 : ByteArray) (a0_1 : ByteArray) : Option (Bool) := (inode_Parse.f k a0_0).bind fun bt177 => (some (bt177.2.2.2.2 != 0))
theorem data_open_1.mono : ∀ a0 a1 k, LeO (data_open_1.f k a0 a1) (data_open_1.f (k + 1) a0 a1) := by
  intro a0 a1 k
  unfold data_open_1.f
  repeat' first
      | (with_reducible exact inode_Parse.mono _ _)
      | (with_reducible exact LeO.refl _)
      | (with_reducible exact LeO.none _)
      | (with_reducible refine LeO.ite ?_ ?_)
      | (with_reducible refine LeO.bind ?_ (fun _ => ?_))
      | exact inode_Parse.mono _ _
      | exact LeO.none _
      | refine LeO.ite ?_ ?_
      | refine LeO.bind ?_ (fun _ => ?_)
set_option maxHeartbeats 8000000 in
set_option maxRecDepth 100000 in
theorem data_open_1.calls (k : Nat) (a0_0 : ByteArray) (a0_1 : ByteArray) (r : Bool) (w : World) (h : data_open_1.f k a0_0 a0_1 = some r) :
    Calls Tryz.prog 30 #[.agg #[.string a0_0, .string a0_1]] w fun e w' => e = .returned (.bool r) ∧ Below w.heap.size w w' := by
  have hu54 := Tryz.underlying54
  have hu71 := Tryz.underlying71
  have HB := Aside0.mk (Below.refl w.heap.size w)
  have H : ((inode_Parse.f k a0_0).bind fun bt177 => (some (bt177.2.2.2.2 != 0))) = some r := h
  clear h
  replace H := Option.bind_eq_some_iff.mp H
  obtain ⟨⟨t177, t178, t179, t180, t181⟩, A20, H⟩ := H
  replace H : (some (t181 != 0)) = some r := H
  have A2 := Aside0.mk A20
  clear A20
  obtain rfl := Option.some.inj H
  go_enter Tryz.func30, Tryz.ntmps30
  go_wp2_with (first | ((with_reducible refine gate_dst (N := 1) rfl ?_); refine bx_ (N := 1) (cs := #[.string a0_0, .string a0_1]) (t := 54) ?_; intro gb176 hg w3 hbox hb; have BK176 := Aside0.mk (hbox); have GW176 := ge_ hg; have GE176 := ge_ hg; replace HB := hb_ hb; clear hb hbox hg; obtain ⟨hcz4_0, hcz4_1⟩ := cl2_ BK176; obtain ⟨hfz4_0, hfz4_1⟩ := fz2_ BK176) | ((with_reducible refine gate_callee (f := 26) rfl ?_); refine gl_ (some 8) Tryz.func26 #[.string a0_0] ?_; (with_reducible refine (inode_Parse.calls k a0_0 t177 t178 t179 t180 t181 _ A2.out).mono ?_); rintro e w5 ⟨rfl, hb⟩; refine ⟨_, rfl, ?_⟩; replace BK176 := kb_ BK176 hb; replace HB := hb_ hb; (try clear hb); (try clear hb2); (try clear hk); (try clear hi)) | ((with_reducible refine gate_dst (N := 3) rfl ?_); refine bx_ (N := 3) (cs := #[.int .u8 0, .int .u32 0, .string (⟨#[]⟩ : ByteArray), .int .u32 0]) (t := 71) ?_; intro gb182 hg w6 hbox hb; have BK182 := Aside0.mk (hbox); have GW182 := ge_ hg; have GE182 := ge_ hg; have NB176_182 := nl_ BK176 hg; have NB182_176 := ng_ BK176 hg; replace BK176 := kb_ BK176 hb; replace HB := hb_ hb; clear hb hbox hg; have hnb7 := NB182_176.out; have hnc7 := NB176_182.out; obtain ⟨hcz8_0, hcz8_1, hcz8_2, hcz8_3⟩ := cl4_ BK182; obtain ⟨hfz8_0, hfz8_1, hfz8_2, hfz8_3⟩ := fz4_ BK182))
  go_ret
  exact ⟨by first | rfl | (simp [errW_none, errW_some] <;> rfl) | (simp [*, errW_none, errW_some] <;> rfl), bel_⟩

end Go.Proofs.YtnngbhdofgodiaaGreatDoor.Z
end

section
-- Printed by a program of this session (mp.py) out of the translation.
namespace Go.Proofs.YtnngbhdofgodiaaGreatDoor.Z
open Go.RowKit Go.Proofs.YtnngbhdofgodiaaGreatDoorW.PrintWords Go.Proofs.YtnngbhdofgodiaaGreatDoorW.PrintLast Go.Proofs.YtnngbhdofgodiaaGreatDoorW.PrintMore
attribute [local go_sem] max2_int min2_int max_two min_two max_three min_three max_four min_four   -- for this text's walks alone
set_option linter.unusedVariables false
set_option linter.unusedSimpArgs false

/-! ### slices_IndexFunc_api_Item_api_Item_fn30: function 46 -/
def slices_IndexFunc_api_Item_api_Item_fn30.l0 : Nat → List (S54) → Int → Int → Option (Int)
  | 0, _, _, _ => none
  | k + 1, x0, x7, x8 => if x8 < x7 then (if 0 ≤ x8 then (if x8 < (x0.length : Int) then ((data_open_1.f k ((rd_T54 x0 x8).f0) ((rd_T54 x0 x8).f1)).bind fun t184 => (if t184 = true then (some x8) else (slices_IndexFunc_api_Item_api_Item_fn30.l0 k x0 x7 (wrap64 (x8 + 1))))) else (none)) else (none)) else (some (-1))
def slices_IndexFunc_api_Item_api_Item_fn30.f (k : Nat) (l0 : List (S54))  : Option (Int) := slices_IndexFunc_api_Item_api_Item_fn30.l0 k l0 (l0.length : Int) 0
theorem slices_IndexFunc_api_Item_api_Item_fn30.mono_l : ∀ k, (∀ y0 y1 y2, LeO (slices_IndexFunc_api_Item_api_Item_fn30.l0 k y0 y1 y2) (slices_IndexFunc_api_Item_api_Item_fn30.l0 (k + 1) y0 y1 y2))
  | 0 => fun _ _ _ r h => by simp [slices_IndexFunc_api_Item_api_Item_fn30.l0] at h
  | k + 1 => by
    have ih0 := slices_IndexFunc_api_Item_api_Item_fn30.mono_l k
    · intro y0 y1 y2
      unfold slices_IndexFunc_api_Item_api_Item_fn30.l0
      repeat' first
      | (with_reducible exact ih0 _ _ _)
      | (with_reducible exact data_open_1.mono _ _ _)
      | (with_reducible exact LeO.refl _)
      | (with_reducible exact LeO.none _)
      | (with_reducible refine LeO.ite ?_ ?_)
      | (with_reducible refine LeO.bind ?_ (fun _ => ?_))
      | exact ih0 _ _ _
      | exact data_open_1.mono _ _ _
      | exact LeO.none _
      | refine LeO.ite ?_ ?_
      | refine LeO.bind ?_ (fun _ => ?_)
theorem slices_IndexFunc_api_Item_api_Item_fn30.mono : ∀ a0 k, LeO (slices_IndexFunc_api_Item_api_Item_fn30.f k a0) (slices_IndexFunc_api_Item_api_Item_fn30.f (k + 1) a0) := by
  intro a0 k
  have ih0 := slices_IndexFunc_api_Item_api_Item_fn30.mono_l k
  unfold slices_IndexFunc_api_Item_api_Item_fn30.f
  repeat' first
      | (with_reducible exact ih0 _ _ _)
      | (with_reducible exact data_open_1.mono _ _ _)
      | (with_reducible exact LeO.refl _)
      | (with_reducible exact LeO.none _)
      | (with_reducible refine LeO.ite ?_ ?_)
      | (with_reducible refine LeO.bind ?_ (fun _ => ?_))
      | exact ih0 _ _ _
      | exact data_open_1.mono _ _ _
      | exact LeO.none _
      | refine LeO.ite ?_ ?_
      | refine LeO.bind ?_ (fun _ => ?_)
set_option maxHeartbeats 8000000 in
set_option maxRecDepth 100000 in
theorem slices_IndexFunc_api_Item_api_Item_fn30.calls (k : Nat) (A0 : Option Addr) (c0 : Nat) (l0 : List (S54))  (r : Int) (w : World) (hr0 : Kd.C k54 w A0 l0.length l0) (hc0 : l0.length ≤ c0) (h : slices_IndexFunc_api_Item_api_Item_fn30.f k l0 = some r) :
    Calls Tryz.prog 46 #[.slice A0 l0.length c0, .func (.func 30) #[] #[]] w fun e w' => e = .returned (.int .i64 r) ∧ Below w.heap.size w w' := by
  have hu54 := Tryz.underlying54
  have HR0 := Aside0.mk hr0
  have HC0 := Aside0.mk hc0
  clear hr0 hc0
  have HB := Aside0.mk (Below.refl w.heap.size w)
  have H : (slices_IndexFunc_api_Item_api_Item_fn30.l0 k l0 (l0.length : Int) 0) = some r := h
  clear h
  have H' := Aside0.mk H
  clear H
  go_enter Tryz.func46, Tryz.ntmps46
  go_wp2
  go_loopg [8] k (fun kq v8 w' => ∃ (x8_1 : Int), v8 = .int .i64 x8_1 ∧ Aside0 (slices_IndexFunc_api_Item_api_Item_fn30.l0 kq l0 (l0.length : Int) x8_1 = some r) ∧ Aside0 (kq ≤ k) ∧ Aside0 (Below w.heap.size w w'))
  case atStart => exact ⟨(0), (by first | rfl | (simp; done) | (simp [*]; done)), H', ⟨Nat.le_refl _⟩, ⟨bel_⟩⟩
  case round =>
    clear H'
    try clear p2
    obtain ⟨x8_1, rfl, HA, HK1, HB⟩ := hrel
    cases gk with
    | zero => exact absurd HA.out (by simp [slices_IndexFunc_api_Item_api_Item_fn30.l0])
    | succ k1 =>
      have H := HA.out
      clear HA
      simp only [slices_IndexFunc_api_Item_api_Item_fn30.l0] at H
      by_cases c3 : x8_1 < (l0.length : Int)
      · rw [if_pos c3] at H
        have c3b0 : decide (x8_1 < (l0.length : Int)) = true := decide_eq_true c3
        clear c3
        by_cases c4 : 0 ≤ x8_1
        · rw [if_pos c4] at H
          have c4b0 : decide (0 ≤ x8_1) = true := decide_eq_true c4
          clear c4
          by_cases c5 : x8_1 < (l0.length : Int)
          · rw [if_pos c5] at H
            have c5b0 : decide (x8_1 < (l0.length : Int)) = true := decide_eq_true c5
            clear c5
            replace H := Option.bind_eq_some_iff.mp H
            obtain ⟨t184, A60, H⟩ := H
            replace H : (if t184 = true then (some x8_1) else (slices_IndexFunc_api_Item_api_Item_fn30.l0 k1 l0 (l0.length : Int) (wrap64 (x8_1 + 1)))) = some r := H
            have A6 := Aside0.mk A60
            clear A60
            by_cases c7 : t184 = true
            · subst c7
              have H1 : (some x8_1) = some r := by rw [if_pos rfl] at H; exact H
              clear H
              have H := H1
              clear H1
              obtain rfl := Option.some.inj H
              have p183 : 0 ≤ (x8_1 : Int) := of_decide_eq_true (by first | (with_reducible assumption) | assumption)
              have q183 : x8_1 < (l0.length : Int) := of_decide_eq_true (by first | (with_reducible assumption) | assumption)
              obtain ⟨ad183, e183, hx183_0, hx183_1⟩ := at_T54 HR0.out x8_1 p183 q183
              cases e183
              replace hx183_0 := (HB.out.cell (World.block_lt_of_cell? w _ hx183_0)).trans hx183_0
              replace hx183_1 := (HB.out.cell (World.block_lt_of_cell? w _ hx183_1)).trans hx183_1
              replace p183 := eq_true p183
              replace q183 := eq_true q183
              go_wp2_with (first | ((with_reducible refine gate_dyn rfl ?_); refine goesD_ (some 16) rfl rfl Tryz.func30 (by kernel_rfl) rfl #[.agg #[.string ((rd_T54 l0 x8_1).f0), .string ((rd_T54 l0 x8_1).f1)]] rfl rfl (by (try simp only [List.map_toArray, List.map_cons, List.map_nil]); first | done | rfl | (simp only [List.length_drop, List.length_take]; rfl)) ?_; (with_reducible refine (data_open_1.calls k1 ((rd_T54 l0 x8_1).f0) ((rd_T54 l0 x8_1).f1) true _ A6.out).mono ?_); rintro e w8 ⟨rfl, hb⟩; refine ⟨_, rfl, ?_⟩; replace HB := hb_ hb; (try clear hb); (try clear hb2); (try clear hk); (try clear hi)))
              go_ret
              exact ⟨by first | rfl | (simp [errW_none, errW_some] <;> rfl) | (simp [*, errW_none, errW_some] <;> rfl), bel_⟩
            replace c7 := Bool.eq_false_iff.mpr c7
            subst c7
            have H1 : (slices_IndexFunc_api_Item_api_Item_fn30.l0 k1 l0 (l0.length : Int) (wrap64 (x8_1 + 1))) = some r := by rw [if_neg (show ¬ (false = true) by decide)] at H; exact H
            clear H
            have H := H1
            clear H1
            have H' := Aside0.mk H
            clear H
            have p183 : 0 ≤ (x8_1 : Int) := of_decide_eq_true (by first | (with_reducible assumption) | assumption)
            have q183 : x8_1 < (l0.length : Int) := of_decide_eq_true (by first | (with_reducible assumption) | assumption)
            obtain ⟨ad183, e183, hx183_0, hx183_1⟩ := at_T54 HR0.out x8_1 p183 q183
            cases e183
            replace hx183_0 := (HB.out.cell (World.block_lt_of_cell? w _ hx183_0)).trans hx183_0
            replace hx183_1 := (HB.out.cell (World.block_lt_of_cell? w _ hx183_1)).trans hx183_1
            replace p183 := eq_true p183
            replace q183 := eq_true q183
            go_wp2_with (first | ((with_reducible refine gate_dyn rfl ?_); refine goesD_ (some 16) rfl rfl Tryz.func30 (by kernel_rfl) rfl #[.agg #[.string ((rd_T54 l0 x8_1).f0), .string ((rd_T54 l0 x8_1).f1)]] rfl rfl (by (try simp only [List.map_toArray, List.map_cons, List.map_nil]); first | done | rfl | (simp only [List.length_drop, List.length_take]; rfl)) ?_; (with_reducible refine (data_open_1.calls k1 ((rd_T54 l0 x8_1).f0) ((rd_T54 l0 x8_1).f1) false _ A6.out).mono ?_); rintro e w9 ⟨rfl, hb⟩; refine ⟨_, rfl, ?_⟩; replace HB := hb_ hb; (try clear hb); (try clear hb2); (try clear hk); (try clear hi)))
            go_roundg k1
            case measure => have := HK1.out; omega
            case rel => exact ⟨(wrap64 (x8_1 + 1)), (by first | rfl | (simp; done) | (simp [*]; done)), H', ⟨by have := HK1.out; omega⟩, ⟨bel_⟩⟩
          rw [if_neg c5] at H
          exact absurd H (by simp)
        rw [if_neg c4] at H
        exact absurd H (by simp)
      rw [if_neg c3] at H
      have c3b0 : decide (x8_1 < (l0.length : Int)) = false := decide_eq_false c3
      clear c3
      obtain rfl := Option.some.inj H
      go_wp2
      go_ret
      exact ⟨by first | rfl | (simp [errW_none, errW_some] <;> rfl) | (simp [*, errW_none, errW_some] <;> rfl), bel_⟩

end Go.Proofs.YtnngbhdofgodiaaGreatDoor.Z
end

section
/- slices.DeleteFunc over items, by data.open's test. -/
namespace Go.Proofs.YtnngbhdofgodiaaGreatDoor.Z
open Go.RowKit Go.Proofs.YtnngbhdofgodiaaGreatDoorW.PrintWords Go.Proofs.YtnngbhdofgodiaaGreatDoorW.PrintLast Go.Proofs.YtnngbhdofgodiaaGreatDoorW.PrintMore
set_option linter.unusedVariables false
set_option linter.unusedSimpArgs false
abbrev IT := S54
/-- A row of items at block g, told cell by cell. -/
def IRow (w : World) (g cap : Nat) (L : List IT) : Prop := ∃ cur, w.heap[g]? = some (.cells cur 54 (0, 0)) ∧ cur.size = cap * 2 ∧ L.length ≤ cap ∧
  ∀ i x, L[i]? = some x → cur[i * 2]? = some (.string x.f0) ∧ cur[i * 2 + 1]? = some (.string x.f1)
theorem IRow.below {w w' : World} {g cap : Nat} {L : List IT} (h : IRow w g cap L) (hb : Below w.heap.size w w') : IRow w' g cap L := by
  obtain ⟨cur, h1, h2⟩ := h
  exact ⟨cur, blk_below h1 hb, h2⟩
theorem IRow.far {w : World} {g cap : Nat} {L : List IT} (h : IRow w g cap L) {b : Nat} (hne : g ≠ b) (j : Nat) (u : Value) : IRow (w.setCell ⟨b, j, none⟩ u) g cap L := by
  obtain ⟨cur, h1, h2⟩ := h
  exact ⟨cur, (Below.heap_setCell w ⟨b, j, none⟩ u g hne).trans h1, h2⟩
theorem IRow.set {w : World} {g cap : Nat} {L : List IT} (h : IRow w g cap L) (i : Nat) (hi : i < L.length) (x : IT) : IRow ((w.setCell ⟨g, i * 2, none⟩ (.string x.f0)).setCell ⟨g, i * 2 + 1, none⟩ (.string x.f1)) g cap (L.set i x) := by
  obtain ⟨cur, h1, h2, h3, h4⟩ := h
  refine ⟨_, blk_set (blk_set h1 _ _) _ _, by simpa using h2, by simpa using h3, fun j y hy => ?_⟩
  by_cases e : i = j
  · subst e
    rw [List.getElem?_set_self hi] at hy
    obtain rfl := Option.some.inj hy
    refine ⟨?_, ?_⟩
    · rw [Array.getElem?_setIfInBounds_ne (by omega), Array.getElem?_setIfInBounds_self_of_lt (by omega)]
    · rw [Array.getElem?_setIfInBounds_self_of_lt (by rw [Array.size_setIfInBounds]; omega)]
  · rw [List.getElem?_set_ne e] at hy
    obtain ⟨a, b⟩ := h4 j y hy
    refine ⟨?_, ?_⟩
    · rw [Array.getElem?_setIfInBounds_ne (by omega), Array.getElem?_setIfInBounds_ne (by omega)]; exact a
    · rw [Array.getElem?_setIfInBounds_ne (by omega), Array.getElem?_setIfInBounds_ne (by omega)]; exact b
theorem IRow.at_ {w : World} {g cap : Nat} {L : List IT} (h : IRow w g cap L) (i : Int) (h0 : 0 ≤ i) (h1 : i < L.length) :
    w.cell? ⟨g, i.toNat * 2, none⟩ = some (.string (rd_T54 L i).f0) ∧ w.cell? ⟨g, i.toNat * 2 + 1, none⟩ = some (.string (rd_T54 L i).f1) ∧ w.frozen? ⟨g, i.toNat * 2, none⟩ = false ∧ w.frozen? ⟨g, i.toNat * 2 + 1, none⟩ = false := by
  obtain ⟨cur, hg, h2, h3, h4⟩ := h
  have hl : i.toNat < L.length := by omega
  have hr : rd_T54 L i = L[i.toNat] := by
    unfold rd_T54
    rw [List.getD_eq_getElem?_getD, List.getElem?_eq_getElem hl]; rfl
  obtain ⟨a, b⟩ := h4 i.toNat _ (List.getElem?_eq_getElem hl)
  rw [hr]
  exact ⟨(blk_cell hg _).trans a, (blk_cell hg _).trans b, blk_frozen hg _, blk_frozen hg _⟩
theorem IRow.reads {w : World} {g cap : Nat} {L : List IT} (h : IRow w g cap L) (hm : L.length ≤ 9223372036854775807) : Kd.C k54 w (some ⟨g, 0, none⟩) L.length L := by
  obtain ⟨cur, hg, h2, h3, h4⟩ := h
  refine ⟨rfl, hm, fun _ => ⟨_, rfl, fun j x hj => ⟨_, rfl, k54_mk w x, fun i u hu => ?_⟩⟩⟩
  obtain ⟨a, b⟩ := h4 j x hj
  have hadd : (⟨g, 0, none⟩ : Addr).add (j * k54.sz + i) = ⟨g, j * 2 + i, none⟩ := by
    rw [k54_sz]
    unfold Addr.add
    split <;> simp_all
  rw [hadd, blk_cell hg]
  match i, hu with
  | 0, hu => exact a.trans hu
  | 1, hu => exact b.trans hu
theorem IRow.of {w : World} {base : Nat} {ok : Nat → Prop} {v : Value} {L : List IT} (h : k54.R 54 w base ok v L) (hn : 0 < L.length) : ∃ g cap, v = .slice (some ⟨g, 0, none⟩) L.length cap ∧ base ≤ g ∧ L.length ≤ cap ∧ cap ≤ maxLen ∧ IRow w g cap L := by
  obtain ⟨g, cap, cur, inner, rfl, hb, hok, hg, hnc, hc, hsz, hil, ht, hrep⟩ := R_row k54_E h hn
  rw [k54_sz] at hsz
  obtain ⟨_, _, hC⟩ := Kd.R_reads' h
  refine ⟨g, cap, rfl, hb, hnc, hc, cur, hg, hsz, hnc, fun i x hx => ?_⟩
  have hl : i < L.length := (List.getElem?_eq_some_iff.1 hx).1
  obtain ⟨ad, e, hcell⟩ := hC.2.2 hn
  injection e with e
  subst e
  obtain ⟨c, hcl, hK, hcc⟩ := hcell i x hx
  obtain rfl := k54_open hK
  have hadd : ∀ j, (⟨g, 0, none⟩ : Addr).add (i * k54.sz + j) = ⟨g, i * 2 + j, none⟩ := fun j => by
    rw [k54_sz]
    unfold Addr.add
    split <;> simp_all
  have h0 := hcc 0 _ rfl
  have h1 := hcc 1 _ rfl
  rw [hadd, blk_cell hg] at h0 h1
  exact ⟨h0, h1⟩
def delL (k : Nat) : Nat → List IT → Int → Int → Option (List IT)
  | 0, L, i, _ => some (L.take i.toNat)
  | d + 1, L, i, j => (data_open_1.f k (rd_T54 L j).f0 (rd_T54 L j).f1).bind fun b => if b = true then delL k d L i (j + 1) else delL k d (L.set i.toNat (rd_T54 L j)) (i + 1) (j + 1)
theorem delL.mono : ∀ (d : Nat) (L : List IT) (i j : Int) (k : Nat), LeO (delL k d L i j) (delL (k + 1) d L i j)
  | 0, L, i, j, k => LeO.refl _
  | d + 1, L, i, j, k => by
    unfold delL
    exact LeO.bind (data_open_1.mono _ _ _) (fun b => LeO.ite (delL.mono d _ _ _ _) (delL.mono d _ _ _ _))
def delF (k : Nat) (l : List IT) : Option (List IT) := (slices_IndexFunc_api_Item_api_Item_fn30.f k l).bind fun i =>
  if i = -1 then some l else if 0 ≤ i ∧ i < (l.length : Int) then delL k (l.length - (i + 1).toNat) l i (i + 1) else none
theorem delF.mono (l : List IT) : ∀ k, LeO (delF k l) (delF (k + 1) l) := fun k => by
  unfold delF
  exact LeO.bind (slices_IndexFunc_api_Item_api_Item_fn30.mono _ _) (fun _ => LeO.ite (LeO.refl _) (LeO.ite (delL.mono _ _ _ _ _) (LeO.refl _)))
set_option maxRecDepth 100000 in
set_option maxHeartbeats 6400000 in
theorem del_calls (k : Nat) (v : Value) (l r : List IT) (w0 w : World) (hB : Below w0.heap.size w0 w) (hR : k54.R 54 w w0.heap.size (fun _ => True) v l) (h : delF k l = some r) :
    Calls Tryz.prog 29 #[v, .func (.func 30) #[] #[]] w fun e w' => ∃ A c, e = .returned (.slice A r.length c) ∧ r.length ≤ c ∧ Kd.C k54 w' A r.length r ∧ Below w0.heap.size w0 w' := by
  unfold delF at h
  obtain ⟨i, h1, h⟩ := Option.bind_eq_some_iff.mp h
  obtain ⟨A, cp, rfl, hcp, hC⟩ := Kd.R_reads hR
  have H1 := Aside0.mk h1
  have HC := Aside0.mk hC
  have HP := Aside0.mk hcp
  have HB := Aside0.mk hB
  clear h1 hC hcp hB
  by_cases hi : i = -1
  · rw [if_pos hi] at h
    obtain rfl := Option.some.inj h
    subst hi
    clear h hR
    go_enter Tryz.func29, Tryz.ntmps29
    go_wp2_with (go_at_call 46; refine (slices_IndexFunc_api_Item_api_Item_fn30.calls k A cp l (-1) _ HC.out HP.out H1.out).mono ?_; rintro e w1 ⟨rfl, hb⟩; have B1 := Aside0.mk (below_step HB.out hb); have C1 := Aside0.mk (Kd.C_below HC.out hb); clear hb)
    go_ret
    exact ⟨A, cp, rfl, HP.out, C1.out, B1.out⟩
  · rw [if_neg hi] at h
    split at h
    case isFalse => cases h
    case isTrue hir =>
    have hn : 0 < l.length := by omega
    obtain ⟨g, cap, hv, hbg, hnc, hcm, hrow⟩ := IRow.of hR hn
    injection hv with hv1 hv2 hv3
    subst hv1
    subst hv3
    have hib : (i == -1) = false := by simpa using hi
    have hid : decide (i = -1) = false := decide_eq_false hi
    have HROW := Aside0.mk hrow
    have HG := Aside0.mk hbg
    have HI := Aside0.mk hir
    have HM := Aside0.mk hcm
    have HD := Aside0.mk h
    have ew : wrap64 (i + 1) = i + 1 := by unfold wrap64; unfold maxLen at hcm; omega
    have EW := Aside0.mk ew
    clear h hR hrow hbg hir hcm hn hnc ew hi
    go_enter Tryz.func29, Tryz.ntmps29
    go_wp2_with (go_at_call 46; refine (slices_IndexFunc_api_Item_api_Item_fn30.calls k _ cp l i _ HC.out HP.out H1.out).mono ?_; rintro e w1 ⟨rfl, hb⟩; have B1 := Aside0.mk (below_step HB.out hb); have R1 := Aside0.mk (HROW.out.below hb); clear hb)
    have hmx := HM.out
    unfold maxLen at hmx
    have hpx := HP.out
    have HX := Aside0.mk (show (l.length : Int) ≤ 9223372036854775807 by omega)
    clear hmx hpx
    go_loopw [5, 6] (fun vi vj wr => ∃ (i' j : Int) (L : List IT), vi = .int .i64 i' ∧ vj = .int .i64 j ∧ Aside0 (0 ≤ i' ∧ i' < j ∧ j ≤ l.length) ∧ Aside0 (Below w0.heap.size w0 wr ∧ IRow wr g cp L ∧ L.length = l.length) ∧ Aside0 (delL k (l.length - j.toNat) L i' j = some r)) (fun _ vj _ => l.length - (intOf vj).toNat)
    case atStart => exact ⟨i, i + 1, l, rfl, by rw [EW.out], ⟨by have := HI.out; omega⟩, ⟨B1.out, R1.out, rfl⟩, HD⟩
    case round =>
      obtain ⟨i', j, L, rfl, rfl, HJ, HS, HF⟩ := hrel
      obtain ⟨hj0, hj1, hj2⟩ := HJ.out
      have hx := HX.out
      by_cases hlt : j < (l.length : Int)
      · have hlt2 : decide (j < (l.length : Int)) = true := decide_eq_true hlt
        have p0 : ((0 : Int) ≤ j) = True := eq_true (by omega)
        have p1 := eq_true hlt
        have p2 := eq_true hj0
        have p3 : (i' < (l.length : Int)) = True := eq_true (by omega)
        have hF := HF.out
        rw [show l.length - j.toNat = (l.length - (j + 1).toNat) + 1 by omega, delL] at hF
        obtain ⟨b, hb, hF⟩ := Option.bind_eq_some_iff.mp hF
        obtain ⟨c0, c1, _, _⟩ := HS.out.2.1.at_ j (by omega) (by rw [HS.out.2.2]; exact hlt)
        obtain ⟨x, hx0⟩ : ∃ x, x = rd_T54 L j := ⟨_, rfl⟩
        rw [← hx0] at hb hF c0 c1
        have HBQ := Aside0.mk hb
        have HFQ := Aside0.mk hF
        have L1 := Aside0.mk hlt
        have ew1 : wrap64 (j + 1) = j + 1 := by unfold wrap64; omega
        have ew2 : wrap64 (i' + 1) = i' + 1 := by unfold wrap64; omega
        have E1 := Aside0.mk ew1
        have E2 := Aside0.mk ew2
        clear hb hF hlt hj0 hj1 hj2 hx hx0 ew1 ew2
        cases b with
        | true =>
          go_wp2_with (first
            | ((with_reducible refine gate_dst (N := 7) rfl ?_); refine box_event ?hg (N := 7) ?hd (cs := #[.string ⟨#[]⟩, .string ⟨#[]⟩]) (t := 54) ?hr ?_; (case hd => rfl); (case hg => rfl); (case hr => first | (go_simp; done) | (go_simp; rfl)); intro gv hgv w3 hx hb; have NE := Aside0.mk (show g ≠ gv by obtain ⟨cur, h1, _⟩ := HS.out.2.1; have := blk_lt h1; omega); have GV := Aside0.mk (show w0.heap.size ≤ gv by have := HS.out.1.size; omega); have V3 := Aside0.mk hx; have S3 := Aside0.mk (show Below w0.heap.size w0 w3 ∧ IRow w3 g cp L from ⟨below_step HS.out.1 hb, HS.out.2.1.below hb⟩); have q0 : w3.cell? ⟨gv, 0, none⟩ = some (.string ⟨#[]⟩) := (blk_cell V3.out 0).trans rfl; have q1 : w3.cell? ⟨gv, 1, none⟩ = some (.string ⟨#[]⟩) := (blk_cell V3.out 1).trans rfl; have f0 : w3.frozen? ⟨gv, 0, none⟩ = false := blk_frozen V3.out 0; have f1 : w3.frozen? ⟨gv, 1, none⟩ = false := blk_frozen V3.out 1; have V4 : ((w3.setCell ⟨gv, 0, none⟩ (.string x.f0)).setCell ⟨gv, 1, none⟩ (.string x.f1)).heap[gv]? = some (.cells #[.string x.f0, .string x.f1] 54 (0, 0)) := blk_set (blk_set V3.out 0 _) 1 _; have u0 : ((w3.setCell ⟨gv, 0, none⟩ (.string x.f0)).setCell ⟨gv, 1, none⟩ (.string x.f1)).cell? ⟨gv, 0, none⟩ = some (.string x.f0) := (blk_cell V4 0).trans rfl; have u1 : ((w3.setCell ⟨gv, 0, none⟩ (.string x.f0)).setCell ⟨gv, 1, none⟩ (.string x.f1)).cell? ⟨gv, 1, none⟩ = some (.string x.f1) := (blk_cell V4 1).trans rfl; have S4 := Aside0.mk (show Below w0.heap.size w0 ((w3.setCell ⟨gv, 0, none⟩ (.string x.f0)).setCell ⟨gv, 1, none⟩ (.string x.f1)) ∧ IRow ((w3.setCell ⟨gv, 0, none⟩ (.string x.f0)).setCell ⟨gv, 1, none⟩ (.string x.f1)) g cp L from ⟨(S3.out.1.setCell (p := ⟨gv, 0, none⟩) GV.out _).setCell (p := ⟨gv, 1, none⟩) GV.out _, (S3.out.2.far NE.out _ _).far NE.out _ _⟩); have V4 := Aside0.mk V4; clear hx hb hgv c0 c1)
            | (go_at_call 30; refine (data_open_1.calls k x.f0 x.f1 true _ HBQ.out).mono ?_; rintro e w5 ⟨rfl, hb⟩; have S5 := Aside0.mk (show Below w0.heap.size w0 w5 ∧ IRow w5 g cp L from ⟨below_step S4.out.1 hb, S4.out.2.below hb⟩); clear hb q0 q1 f0 f1 u0 u1))
          have hl := L1.out
          have hj := HJ.out
          go_roundw
          case rel => exact ⟨i', j + 1, L, rfl, by rw [E1.out], ⟨by omega⟩, ⟨S5.out.1, S5.out.2, HS.out.2.2⟩, ⟨by simpa using HFQ.out⟩⟩
          case measure =>
            simp [E1.out, intOf]
            omega
        | false =>
          go_wp2_with (first
            | ((with_reducible refine gate_dst (N := 7) rfl ?_); refine box_event ?hg (N := 7) ?hd (cs := #[.string ⟨#[]⟩, .string ⟨#[]⟩]) (t := 54) ?hr ?_; (case hd => rfl); (case hg => rfl); (case hr => first | (go_simp; done) | (go_simp; rfl)); intro gv hgv w3 hx hb; have NE := Aside0.mk (show g ≠ gv by obtain ⟨cur, h1, _⟩ := HS.out.2.1; have := blk_lt h1; omega); have GV := Aside0.mk (show w0.heap.size ≤ gv by have := HS.out.1.size; omega); have V3 := Aside0.mk hx; have S3 := Aside0.mk (show Below w0.heap.size w0 w3 ∧ IRow w3 g cp L from ⟨below_step HS.out.1 hb, HS.out.2.1.below hb⟩); have q0 : w3.cell? ⟨gv, 0, none⟩ = some (.string ⟨#[]⟩) := (blk_cell V3.out 0).trans rfl; have q1 : w3.cell? ⟨gv, 1, none⟩ = some (.string ⟨#[]⟩) := (blk_cell V3.out 1).trans rfl; have f0 : w3.frozen? ⟨gv, 0, none⟩ = false := blk_frozen V3.out 0; have f1 : w3.frozen? ⟨gv, 1, none⟩ = false := blk_frozen V3.out 1; have V4 : ((w3.setCell ⟨gv, 0, none⟩ (.string x.f0)).setCell ⟨gv, 1, none⟩ (.string x.f1)).heap[gv]? = some (.cells #[.string x.f0, .string x.f1] 54 (0, 0)) := blk_set (blk_set V3.out 0 _) 1 _; have u0 : ((w3.setCell ⟨gv, 0, none⟩ (.string x.f0)).setCell ⟨gv, 1, none⟩ (.string x.f1)).cell? ⟨gv, 0, none⟩ = some (.string x.f0) := (blk_cell V4 0).trans rfl; have u1 : ((w3.setCell ⟨gv, 0, none⟩ (.string x.f0)).setCell ⟨gv, 1, none⟩ (.string x.f1)).cell? ⟨gv, 1, none⟩ = some (.string x.f1) := (blk_cell V4 1).trans rfl; have S4 := Aside0.mk (show Below w0.heap.size w0 ((w3.setCell ⟨gv, 0, none⟩ (.string x.f0)).setCell ⟨gv, 1, none⟩ (.string x.f1)) ∧ IRow ((w3.setCell ⟨gv, 0, none⟩ (.string x.f0)).setCell ⟨gv, 1, none⟩ (.string x.f1)) g cp L from ⟨(S3.out.1.setCell (p := ⟨gv, 0, none⟩) GV.out _).setCell (p := ⟨gv, 1, none⟩) GV.out _, (S3.out.2.far NE.out _ _).far NE.out _ _⟩); have V4 := Aside0.mk V4; clear hx hb hgv c0 c1)
            | (go_at_call 30; refine (data_open_1.calls k x.f0 x.f1 false _ HBQ.out).mono ?_; rintro e w5 ⟨rfl, hb⟩; have S5 := Aside0.mk (show Below w0.heap.size w0 w5 ∧ IRow w5 g cp L from ⟨below_step S4.out.1 hb, S4.out.2.below hb⟩); have V5 := Aside0.mk (blk_below V4.out hb); have d0 : w5.cell? ⟨gv, 0, none⟩ = some (.string x.f0) := (blk_cell V5.out 0).trans rfl; have d1 : w5.cell? ⟨gv, 1, none⟩ = some (.string x.f1) := (blk_cell V5.out 1).trans rfl; obtain ⟨r0, r1, z0, z1⟩ := S5.out.2.at_ i' (of_eq_true p2) (by rw [HS.out.2.2]; exact of_eq_true p3); clear hb q0 q1 f0 f1 u0 u1))
          have hl := L1.out
          have hj := HJ.out
          go_roundw
          case rel => exact ⟨i' + 1, j + 1, L.set i'.toNat x, by rw [E2.out], by rw [E1.out], ⟨by omega⟩, ⟨(S5.out.1.setCell (p := ⟨g, i'.toNat * 2, none⟩) HG.out _).setCell (p := ⟨g, i'.toNat * 2 + 1, none⟩) HG.out _, S5.out.2.set i'.toNat (by have := HS.out.2.2; omega) x, by rw [List.length_set]; exact HS.out.2.2⟩, ⟨by simpa using HFQ.out⟩⟩
          case measure =>
            simp [E1.out, intOf]
            omega
      · have hge : decide (j < (l.length : Int)) = false := decide_eq_false hlt
        have hF := HF.out
        rw [show l.length - j.toNat = 0 by omega, delL] at hF
        obtain rfl := Option.some.inj hF
        have p2 := eq_true hj0
        have p3 : (i' < (l.length : Int)) = True := eq_true (by omega)
        have p4 : (i' ≤ (l.length : Int)) = True := eq_true (by omega)
        have p5 : (i' ≤ (cp : Int)) = True := eq_true (by have := HP.out; omega)
        have hne1 : ¬ cp = i'.toNat := by have := HP.out; omega
        have hlL := HS.out.2.2
        obtain ⟨cur, hg, hs2, hs3, hs4⟩ := HS.out.2.1
        obtain ⟨i0, hi0, hz0, hz1, hz2⟩ := info_parts info_Item
        have hzero : ∀ w, (zeroValue 54).run Tryz.prog w = .ok (.agg #[.string ⟨#[]⟩, .string ⟨#[]⟩]) w := fun w => by simp [zeroValue, typeInfo, hi0, hz0]
        have hcz : (Value.agg #[.string ⟨#[]⟩, .string ⟨#[]⟩]).cells.size = 2 := rfl
        have hclear := run_clear_k wr 22 54 0 (.agg #[.string ⟨#[]⟩, .string ⟨#[]⟩]) Tryz.underlying22 hzero (by decide) g (i'.toNat * 2) (l.length - i'.toNat) (cp - i'.toNat) (by omega)
          (fun m hm => by rw [hcz] at hm; exact row_some hg _ (by have := HP.out; omega)) (fun m hm => blk_frozen hg _)
        have hzl : (Builtin.zeroCells (Value.agg #[.string ⟨#[]⟩, .string ⟨#[]⟩]).cells (l.length - i'.toNat)).toList.length = (l.length - i'.toNat) * 2 := by rw [Array.length_toList, size_zeroCells, hcz]
        obtain ⟨cur2, hg2, hs5, ht2⟩ := setCells_row (Builtin.zeroCells (Value.agg #[.string ⟨#[]⟩, .string ⟨#[]⟩]).cells (l.length - i'.toNat)).toList (i'.toNat * 2) wr cur hg (by rw [hzl]; have := HP.out; omega)
        have B2 := Aside0.mk (below_setCells HS.out.1 HG.out (i'.toNat * 2) (Builtin.zeroCells (Value.agg #[.string ⟨#[]⟩, .string ⟨#[]⟩]).cells (l.length - i'.toNat)).toList)
        generalize wr.setCells g (i'.toNat * 2) _ = W2 at hclear hg2 B2
        have hrow2 : IRow W2 g cp (L.take i'.toNat) := by
          refine ⟨cur2, hg2, by rw [hs5]; exact hs2, by rw [List.length_take]; omega, fun m x hm => ?_⟩
          have hml : m < i'.toNat := by
            have := (List.getElem?_eq_some_iff.1 hm).1
            rw [List.length_take] at this
            omega
          rw [List.getElem?_take, if_pos hml] at hm
          obtain ⟨a, b⟩ := hs4 m x hm
          have hcut : ∀ q, q < i'.toNat * 2 → cur2[q]? = cur[q]? := fun q hq => by
            have := congrArg (fun l : List Value => l[q]?) ht2
            simp only [Array.getElem?_toList] at this
            rw [this, List.append_assoc, List.getElem?_append_left (by rw [List.length_take, Array.length_toList]; have := HP.out; omega), List.getElem?_take, if_pos hq, Array.getElem?_toList]
          exact ⟨(hcut _ (by omega)).trans a, (hcut _ (by omega)).trans b⟩
        have HR2 := Aside0.mk (hrow2.reads (by rw [List.length_take]; have := HX.out; omega))
        have HCL := Aside0.mk hclear
        have HTL := Aside0.mk (show (L.take i'.toNat).length = i'.toNat by rw [List.length_take]; omega)
        clear hF hlt hj1 hj2 hx HF hclear hrow2 hg hs2 hs3 hs4 hi0 hz0 hz1 hz2 hzero hcz hzl hg2 hs5 ht2 hlL
        go_wp2
        rw [HCL.out]
        go_wp2
        go_ret
        refine ⟨some ⟨g, 0, none⟩, cp, by rw [HTL.out]; rfl, by rw [HTL.out]; have := HP.out; have := HJ.out; omega, HR2.out, B2.out⟩
end Go.Proofs.YtnngbhdofgodiaaGreatDoor.Z
end

section
/- strings.TrimRight at the zero byte. -/
namespace Go.Proofs.YtnngbhdofgodiaaGreatDoor.Z
open Go.RowKit Go.Proofs.YtnngbhdofgodiaaGreatDoorW.PrintWords Go.Proofs.YtnngbhdofgodiaaGreatDoorW.PrintLast
set_option linter.unusedVariables false
set_option linter.unusedSimpArgs false
/-- Bytes without the zero bytes at their end. -/
def trimL (l : List UInt8) : List UInt8 := (l.reverse.dropWhile (· == 0)).reverse
def trimB (a : ByteArray) : ByteArray := ⟨(trimL a.data.toList).toArray⟩
def strings_TrimRight.f (a0 a1 : ByteArray) : Option ByteArray := if a1 = ⟨#[0]⟩ ∧ a0.size ≤ 9223372036854775807 then some (trimB a0) else none
theorem trimL_snoc (l : List UInt8) (b : UInt8) : trimL (l ++ [b]) = if b = 0 then trimL l else l ++ [b] := by
  unfold trimL
  rw [List.reverse_append, List.reverse_singleton, List.singleton_append, List.dropWhile_cons]
  by_cases h : b = 0
  · subst h; simp
  · rw [if_neg h, if_neg (by simpa using h)]; simp
theorem trim_nil (a : ByteArray) (h : a.size = 0) : trimB a = a := by
  obtain ⟨⟨l⟩⟩ := a
  have : l = [] := List.eq_nil_of_length_eq_zero h
  subst this
  rfl
theorem last_cases (a : ByteArray) (k : Nat) (hk : a.size = k + 1) : (a[k] = 0 → trimB a = trimB (a.extract 0 k)) ∧ (¬ a[k] = 0 → trimB a = a) := by
  obtain ⟨⟨l⟩⟩ := a
  have hl : l.length = k + 1 := hk
  obtain rfl | ⟨l', b, rfl⟩ := List.eq_nil_or_concat l
  · cases hl
  · have hk' : l'.length = k := by simpa using hl
    subst hk'
    have e : (⟨⟨l'.concat b⟩⟩ : ByteArray)[l'.length] = b := by
      show (l'.concat b)[l'.length]'(by simp) = b
      simp
    rw [e]
    refine ⟨fun hb => ?_, fun hb => ?_⟩
    · unfold trimB
      rw [List.concat_eq_append, trimL_snoc, if_pos hb, Lib.extract_eq]
      simp
    · unfold trimB
      rw [List.concat_eq_append, trimL_snoc, if_neg hb]
set_option maxHeartbeats 1600000 in
theorem trimByte (a : ByteArray) (ha : a.size ≤ 9223372036854775807) (w : World) :
    Calls Tryz.prog 48 #[.string a, .int .u8 0] w fun e w' => e = .returned (.string (trimB a)) ∧ w' = w := by
  go_enter Tryz.func48, Tryz.ntmps48
  go_wp2
  go_loop [0] (fun s => ∃ b : ByteArray, s = .string b ∧ Aside0 (b.size ≤ 9223372036854775807) ∧ Aside0 (trimB b = trimB a)) (fun s => match s with | .string b => b.size | _ => 0)
  case atStart => exact ⟨a, rfl, ⟨ha⟩, ⟨rfl⟩⟩
  case round =>
    obtain ⟨b, rfl, HS, HT⟩ := hrel
    by_cases h0 : b.size = 0
    · have e0 : (b.size : Int) = 0 := by omega
      have hf : decide ((0 : Int) < (b.size : Int)) = false := by simp [h0]
      have hf2 : decide (0 < b.size) = false := by simp [h0]
      have hE : trimB b = b := trim_nil b h0
      have HE := Aside0.mk hE
      clear hE e0 h0
      go_wp2
      go_ret
      exact ⟨by rw [← HT.out, HE.out]; rfl, rfl⟩
    · obtain ⟨k, hk⟩ : ∃ k, b.size = k + 1 := ⟨b.size - 1, by omega⟩
      obtain ⟨h1, h2⟩ := last_cases b k hk
      have hf : decide ((0 : Int) < (b.size : Int)) = true := by simp; omega
      have hf2 : decide (0 < b.size) = true := by simp; omega
      have HK := Aside0.mk hk
      have H1 := Aside0.mk h1
      have H2 := Aside0.mk h2
      clear h1 h2
      have hsz := HS.out
      go_wp2
      · have hz : b[k] = 0 := by
          have hq : (((b[k].toNat : Nat) : Int) == 0) = true := by assumption
          have hq := beq_iff_eq.1 hq
          have : b[k].toNat = 0 := by omega
          exact UInt8.toNat_inj.1 this
        refine ⟨⟨b.extract 0 k, rfl, ⟨?_⟩, ⟨?_⟩⟩, ?_⟩
        · rw [ByteArray.size_extract]; omega
        · rw [← H1.out hz, HT.out]
        · show (b.extract 0 k).size < b.size
          rw [ByteArray.size_extract]; omega
      · have hz : ¬ b[k] = 0 := by
          intro hc
          have hq : (((b[k].toNat : Nat) : Int) == 0) = false := by assumption
          rw [hc] at hq
          exact absurd hq (by decide)
        go_ret
        exact ⟨by rw [← HT.out, H2.out hz]; rfl, rfl⟩
set_option maxRecDepth 100000 in
theorem strings_TrimRight.calls (a0 a1 : ByteArray) (r : ByteArray) (w : World) (h : strings_TrimRight.f a0 a1 = some r) :
    Calls Tryz.prog 32 #[.string a0, .string a1] w fun e w' => e = .returned (.string r) ∧ Drawn0 w w' := by
  unfold strings_TrimRight.f at h
  split at h
  case isFalse => cases h
  case isTrue hs =>
    obtain ⟨rfl, hs⟩ := hs
    obtain rfl := Option.some.inj h
    by_cases h0 : a0.toList = []
    · have e0 : a0.toList.isEmpty = true := by rw [h0]; rfl
      have hE : trimB a0 = a0 := trim_nil a0 (by
        rw [ByteArray.toList_eq] at h0
        have := congrArg List.length h0
        rw [Array.length_toList] at this
        exact this)
      have HE := Aside0.mk hE
      clear hE
      go_enter Tryz.func32, Tryz.ntmps32
      go_wp2
      go_ret
      exact ⟨by rw [HE.out]; rfl, Drawn0.refl _⟩
    · have e0 : a0.toList.isEmpty = false := by simpa using h0
      have HS := Aside0.mk hs
      clear hs
      go_enter Tryz.func32, Tryz.ntmps32
      go_wp2_with (go_at_call 48; refine (trimByte a0 HS.out _).mono ?_; rintro e w' ⟨rfl, rfl⟩)
      go_ret
      exact ⟨rfl, Drawn0.refl _⟩
end Go.Proofs.YtnngbhdofgodiaaGreatDoor.Z
end

section
-- Printed by a program of this session (mp.py) out of the translation.
namespace Go.Proofs.YtnngbhdofgodiaaGreatDoor.Z
open Go.RowKit Go.Proofs.YtnngbhdofgodiaaGreatDoorW.PrintWords Go.Proofs.YtnngbhdofgodiaaGreatDoorW.PrintLast Go.Proofs.YtnngbhdofgodiaaGreatDoorW.PrintMore
attribute [local go_sem] max2_int min2_int max_two min_two max_three min_three max_four min_four   -- for this text's walks alone
set_option linter.unusedVariables false
set_option linter.unusedSimpArgs false

/-! ### data_file_kept_1: function 47 -/
def data_file_kept_1.f (a0_0 : ByteArray) (a0_1 : ByteArray) (a1 : ByteArray) : Option (Int) := (cmp_Compare_string.f a0_0 a1).bind fun t197 => (some t197)
set_option maxHeartbeats 8000000 in
set_option maxRecDepth 100000 in
theorem data_file_kept_1.calls (a0_0 : ByteArray) (a0_1 : ByteArray) (a1 : ByteArray) (r : Int) (w : World) (h : data_file_kept_1.f a0_0 a0_1 a1 = some r) :
    Calls Tryz.prog 47 #[.agg #[.string a0_0, .string a0_1], .string a1] w fun e w' => e = .returned (.int .i64 r) ∧ Below w.heap.size w w' := by
  have hu54 := Tryz.underlying54
  have HB := Aside0.mk (Below.refl w.heap.size w)
  have H : ((cmp_Compare_string.f a0_0 a1).bind fun t197 => (some t197)) = some r := h
  clear h
  replace H := Option.bind_eq_some_iff.mp H
  obtain ⟨t197, A30, H⟩ := H
  replace H : (some t197) = some r := H
  have A3 := Aside0.mk A30
  clear A30
  obtain rfl := Option.some.inj H
  go_enter Tryz.func47, Tryz.ntmps47
  go_wp2_with (first | ((with_reducible refine gate_dst (N := 2) rfl ?_); refine bx_ (N := 2) (cs := #[.string a0_0, .string a0_1]) (t := 54) ?_; intro gb196 hg w4 hbox hb; have BK196 := Aside0.mk (hbox); have GW196 := ge_ hg; have GE196 := ge_ hg; replace HB := hb_ hb; clear hb hbox hg; obtain ⟨hcz5_0, hcz5_1⟩ := cl2_ BK196; obtain ⟨hfz5_0, hfz5_1⟩ := fz2_ BK196) | ((with_reducible refine gate_callee (f := 37) rfl ?_); refine gl_ (some 8) Tryz.func37 #[.string a0_0, .string a1] ?_; (with_reducible refine (cmp_Compare_string.calls a0_0 a1 t197 _ A3.out).mono ?_); rintro e w' ⟨rfl, ⟨nd, rfl⟩⟩; refine ⟨_, rfl, ?_⟩))
  go_ret
  exact ⟨by first | rfl | (simp [errW_none, errW_some] <;> rfl) | (simp [*, errW_none, errW_some] <;> rfl), bel_⟩

end Go.Proofs.YtnngbhdofgodiaaGreatDoor.Z
end

section
-- Printed by a program of this session (mp.py) out of the translation.
namespace Go.Proofs.YtnngbhdofgodiaaGreatDoor.Z
open Go.RowKit Go.Proofs.YtnngbhdofgodiaaGreatDoorW.PrintWords Go.Proofs.YtnngbhdofgodiaaGreatDoorW.PrintLast Go.Proofs.YtnngbhdofgodiaaGreatDoorW.PrintMore
attribute [local go_sem] max2_int min2_int max_two min_two max_three min_three max_four min_four   -- for this text's walks alone
set_option linter.unusedVariables false
set_option linter.unusedSimpArgs false

/-! ### slices_BinarySearchFunc_api_Item_api_Item_string_fn47: function 35 -/
def slices_BinarySearchFunc_api_Item_api_Item_string_fn47.l0 : Nat → List (S54) → ByteArray → Int → Int → Int → Option (Int × Bool)
  | 0, _, _, _, _, _ => none
  | k + 1, x0, x1, x8, x9, x10 => if x9 < x10 then (if 0 ≤ (wrap64 ((IntKind.u64.wrap (wrap64 (x9 + x10))) / 2)) then (if (wrap64 ((IntKind.u64.wrap (wrap64 (x9 + x10))) / 2)) < (x0.length : Int) then ((data_file_kept_1.f ((rd_T54 x0 (wrap64 ((IntKind.u64.wrap (wrap64 (x9 + x10))) / 2))).f0) ((rd_T54 x0 (wrap64 ((IntKind.u64.wrap (wrap64 (x9 + x10))) / 2))).f1) x1).bind fun t199 => (if t199 < 0 then (slices_BinarySearchFunc_api_Item_api_Item_string_fn47.l0 k x0 x1 x8 (wrap64 ((wrap64 ((IntKind.u64.wrap (wrap64 (x9 + x10))) / 2)) + 1)) x10) else (slices_BinarySearchFunc_api_Item_api_Item_string_fn47.l0 k x0 x1 x8 x9 (wrap64 ((IntKind.u64.wrap (wrap64 (x9 + x10))) / 2))))) else (none)) else (none)) else (if x9 < x8 then (if 0 ≤ x9 then (if x9 < (x0.length : Int) then ((data_file_kept_1.f ((rd_T54 x0 x9).f0) ((rd_T54 x0 x9).f1) x1).bind fun t201 => (some (x9, (t201 == 0)))) else (none)) else (none)) else (some (x9, false)))
def slices_BinarySearchFunc_api_Item_api_Item_string_fn47.f (k : Nat) (l0 : List (S54)) (a1 : ByteArray)  : Option (Int × Bool) := slices_BinarySearchFunc_api_Item_api_Item_string_fn47.l0 k l0 a1 (l0.length : Int) 0 (l0.length : Int)
theorem slices_BinarySearchFunc_api_Item_api_Item_string_fn47.mono_l : ∀ k, (∀ y0 y1 y2 y3 y4, LeO (slices_BinarySearchFunc_api_Item_api_Item_string_fn47.l0 k y0 y1 y2 y3 y4) (slices_BinarySearchFunc_api_Item_api_Item_string_fn47.l0 (k + 1) y0 y1 y2 y3 y4))
  | 0 => fun _ _ _ _ _ r h => by simp [slices_BinarySearchFunc_api_Item_api_Item_string_fn47.l0] at h
  | k + 1 => by
    have ih0 := slices_BinarySearchFunc_api_Item_api_Item_string_fn47.mono_l k
    · intro y0 y1 y2 y3 y4
      unfold slices_BinarySearchFunc_api_Item_api_Item_string_fn47.l0
      repeat' first
      | (with_reducible exact ih0 _ _ _ _ _)
      | (with_reducible exact LeO.refl _)
      | (with_reducible exact LeO.none _)
      | (with_reducible refine LeO.ite ?_ ?_)
      | (with_reducible refine LeO.bind ?_ (fun _ => ?_))
      | exact ih0 _ _ _ _ _
      | exact LeO.none _
      | refine LeO.ite ?_ ?_
      | refine LeO.bind ?_ (fun _ => ?_)
theorem slices_BinarySearchFunc_api_Item_api_Item_string_fn47.mono : ∀ a0 a1 k, LeO (slices_BinarySearchFunc_api_Item_api_Item_string_fn47.f k a0 a1) (slices_BinarySearchFunc_api_Item_api_Item_string_fn47.f (k + 1) a0 a1) := by
  intro a0 a1 k
  have ih0 := slices_BinarySearchFunc_api_Item_api_Item_string_fn47.mono_l k
  unfold slices_BinarySearchFunc_api_Item_api_Item_string_fn47.f
  repeat' first
      | (with_reducible exact ih0 _ _ _ _ _)
      | (with_reducible exact LeO.refl _)
      | (with_reducible exact LeO.none _)
      | (with_reducible refine LeO.ite ?_ ?_)
      | (with_reducible refine LeO.bind ?_ (fun _ => ?_))
      | exact ih0 _ _ _ _ _
      | exact LeO.none _
      | refine LeO.ite ?_ ?_
      | refine LeO.bind ?_ (fun _ => ?_)
set_option maxHeartbeats 8000000 in
set_option maxRecDepth 100000 in
theorem slices_BinarySearchFunc_api_Item_api_Item_string_fn47.calls (k : Nat) (A0 : Option Addr) (c0 : Nat) (l0 : List (S54)) (a1 : ByteArray)  (r1 : Int) (r2 : Bool) (w : World) (hr0 : Kd.C k54 w A0 l0.length l0) (hc0 : l0.length ≤ c0) (h : slices_BinarySearchFunc_api_Item_api_Item_string_fn47.f k l0 a1 = some (r1, r2)) :
    Calls Tryz.prog 35 #[.slice A0 l0.length c0, .string a1, .func (.func 47) #[] #[]] w fun e w' => e = .returned (.tuple #[.int .i64 r1, .bool r2]) ∧ Below w.heap.size w w' := by
  have hu54 := Tryz.underlying54
  have HR0 := Aside0.mk hr0
  have HC0 := Aside0.mk hc0
  clear hr0 hc0
  have HB := Aside0.mk (Below.refl w.heap.size w)
  have H : (slices_BinarySearchFunc_api_Item_api_Item_string_fn47.l0 k l0 a1 (l0.length : Int) 0 (l0.length : Int)) = some (r1, r2) := h
  clear h
  have H' := Aside0.mk H
  clear H
  go_enter Tryz.func35, Tryz.ntmps35
  go_wp2
  go_loopg [9, 10] k (fun kq v9 v10 w' => ∃ (x9_1 : Int) (x10_1 : Int), v9 = .int .i64 x9_1 ∧ v10 = .int .i64 x10_1 ∧ Aside0 (slices_BinarySearchFunc_api_Item_api_Item_string_fn47.l0 kq l0 a1 (l0.length : Int) x9_1 x10_1 = some (r1, r2)) ∧ Aside0 (kq ≤ k) ∧ Aside0 (Below w.heap.size w w'))
  case atStart => exact ⟨(0), ((l0.length : Int)), (by first | rfl | (simp; done) | (simp [*]; done)), (by first | rfl | (simp; done) | (simp [*]; done)), H', ⟨Nat.le_refl _⟩, ⟨bel_⟩⟩
  case round =>
    clear H'
    try clear p2
    obtain ⟨x9_1, x10_1, rfl, rfl, HA, HK1, HB⟩ := hrel
    cases gk with
    | zero => exact absurd HA.out (by simp [slices_BinarySearchFunc_api_Item_api_Item_string_fn47.l0])
    | succ k1 =>
      have H := HA.out
      clear HA
      simp only [slices_BinarySearchFunc_api_Item_api_Item_string_fn47.l0] at H
      by_cases c4 : x9_1 < x10_1
      · rw [if_pos c4] at H
        have c4b0 : decide (x9_1 < x10_1) = true := decide_eq_true c4
        clear c4
        obtain ⟨ji5, hji5⟩ : ∃ j_ : Int, (wrap64 ((IntKind.u64.wrap (wrap64 (x9_1 + x10_1))) / 2)) = j_ := ⟨_, rfl⟩
        replace H : (if 0 ≤ (ji5) then (if (ji5) < (l0.length : Int) then ((data_file_kept_1.f ((rd_T54 l0 (ji5)).f0) ((rd_T54 l0 (ji5)).f1) a1).bind fun t199 => (if t199 < 0 then (slices_BinarySearchFunc_api_Item_api_Item_string_fn47.l0 k1 l0 a1 (l0.length : Int) (wrap64 ((ji5) + 1)) x10_1) else (slices_BinarySearchFunc_api_Item_api_Item_string_fn47.l0 k1 l0 a1 (l0.length : Int) x9_1 ji5))) else (none)) else (none)) = some (r1, r2) := by first | (rw [hji5] at H; exact H) | (simp only [hji5] at H ⊢; exact H)
        have hji5w : (IntKind.i64.wrap ((IntKind.u64.wrap (wrap64 (x9_1 + x10_1))) / 2)) = ji5 := (i64_w _).trans hji5
        by_cases c6 : 0 ≤ (ji5)
        · rw [if_pos c6] at H
          have c6b0 : decide (0 ≤ (ji5)) = true := decide_eq_true c6
          clear c6
          by_cases c7 : (ji5) < (l0.length : Int)
          · rw [if_pos c7] at H
            have c7b0 : decide ((ji5) < (l0.length : Int)) = true := decide_eq_true c7
            clear c7
            replace H := Option.bind_eq_some_iff.mp H
            obtain ⟨t199, A80, H⟩ := H
            replace H : (if t199 < 0 then (slices_BinarySearchFunc_api_Item_api_Item_string_fn47.l0 k1 l0 a1 (l0.length : Int) (wrap64 ((ji5) + 1)) x10_1) else (slices_BinarySearchFunc_api_Item_api_Item_string_fn47.l0 k1 l0 a1 (l0.length : Int) x9_1 ji5)) = some (r1, r2) := H
            have A8 := Aside0.mk A80
            clear A80
            by_cases c9 : t199 < 0
            · rw [if_pos c9] at H
              have c9b0 : decide (t199 < 0) = true := decide_eq_true c9
              clear c9
              have H' := Aside0.mk H
              clear H
              have p198 : 0 ≤ ((ji5) : Int) := of_decide_eq_true (by first | (with_reducible assumption) | assumption)
              have q198 : (ji5) < (l0.length : Int) := of_decide_eq_true (by first | (with_reducible assumption) | assumption)
              obtain ⟨ad198, e198, hx198_0, hx198_1⟩ := at_T54 HR0.out (ji5) p198 q198
              cases e198
              replace hx198_0 := (HB.out.cell (World.block_lt_of_cell? w _ hx198_0)).trans hx198_0
              replace hx198_1 := (HB.out.cell (World.block_lt_of_cell? w _ hx198_1)).trans hx198_1
              replace p198 := eq_true p198
              replace q198 := eq_true q198
              go_wp2_with (first | ((with_reducible refine gate_dyn rfl ?_); refine goesD_ (some 30) rfl rfl Tryz.func47 (by kernel_rfl) rfl #[.agg #[.string ((rd_T54 l0 (ji5)).f0), .string ((rd_T54 l0 (ji5)).f1)], .string a1] rfl rfl (by (try simp only [List.map_toArray, List.map_cons, List.map_nil]); first | done | (simp only [hji5]; rfl) | rfl | (simp only [List.length_drop, List.length_take]; rfl)) ?_; (with_reducible refine (data_file_kept_1.calls ((rd_T54 l0 (ji5)).f0) ((rd_T54 l0 (ji5)).f1) a1 t199 _ A8.out).mono ?_); rintro e w10 ⟨rfl, hb⟩; refine ⟨_, rfl, ?_⟩; replace HB := hb_ hb; (try clear hb); (try clear hb2); (try clear hk); (try clear hi)))
              go_roundg k1
              case measure => have := HK1.out; omega
              case rel => exact ⟨(wrap64 ((ji5) + 1)), (x10_1), (by first | rfl | (simp; done) | (simp only [← hji5] <;> (first | rfl | simp)) | (simp [*]; done)), (by first | rfl | (simp; done) | (simp [*]; done)), H', ⟨by have := HK1.out; omega⟩, ⟨bel_⟩⟩
            rw [if_neg c9] at H
            have c9b0 : decide (t199 < 0) = false := decide_eq_false c9
            clear c9
            have H' := Aside0.mk H
            clear H
            have p198 : 0 ≤ ((ji5) : Int) := of_decide_eq_true (by first | (with_reducible assumption) | assumption)
            have q198 : (ji5) < (l0.length : Int) := of_decide_eq_true (by first | (with_reducible assumption) | assumption)
            obtain ⟨ad198, e198, hx198_0, hx198_1⟩ := at_T54 HR0.out (ji5) p198 q198
            cases e198
            replace hx198_0 := (HB.out.cell (World.block_lt_of_cell? w _ hx198_0)).trans hx198_0
            replace hx198_1 := (HB.out.cell (World.block_lt_of_cell? w _ hx198_1)).trans hx198_1
            replace p198 := eq_true p198
            replace q198 := eq_true q198
            go_wp2_with (first | ((with_reducible refine gate_dyn rfl ?_); refine goesD_ (some 30) rfl rfl Tryz.func47 (by kernel_rfl) rfl #[.agg #[.string ((rd_T54 l0 (ji5)).f0), .string ((rd_T54 l0 (ji5)).f1)], .string a1] rfl rfl (by (try simp only [List.map_toArray, List.map_cons, List.map_nil]); first | done | (simp only [hji5]; rfl) | rfl | (simp only [List.length_drop, List.length_take]; rfl)) ?_; (with_reducible refine (data_file_kept_1.calls ((rd_T54 l0 (ji5)).f0) ((rd_T54 l0 (ji5)).f1) a1 t199 _ A8.out).mono ?_); rintro e w11 ⟨rfl, hb⟩; refine ⟨_, rfl, ?_⟩; replace HB := hb_ hb; (try clear hb); (try clear hb2); (try clear hk); (try clear hi)))
            go_roundg k1
            case measure => have := HK1.out; omega
            case rel => exact ⟨(x9_1), (ji5), (by first | rfl | (simp; done) | (simp [*]; done)), (by first | rfl | (simp; done) | (simp only [← hji5] <;> (first | rfl | simp)) | (simp [*]; done)), H', ⟨by have := HK1.out; omega⟩, ⟨bel_⟩⟩
          rw [if_neg c7] at H
          exact absurd H (by simp)
        rw [if_neg c6] at H
        exact absurd H (by simp)
      rw [if_neg c4] at H
      have c4b0 : decide (x9_1 < x10_1) = false := decide_eq_false c4
      clear c4
      by_cases c12 : x9_1 < (l0.length : Int)
      · rw [if_pos c12] at H
        have c12b0 : decide (x9_1 < (l0.length : Int)) = true := decide_eq_true c12
        clear c12
        by_cases c13 : 0 ≤ x9_1
        · rw [if_pos c13] at H
          have c13b0 : decide (0 ≤ x9_1) = true := decide_eq_true c13
          clear c13
          by_cases c14 : x9_1 < (l0.length : Int)
          · rw [if_pos c14] at H
            have c14b0 : decide (x9_1 < (l0.length : Int)) = true := decide_eq_true c14
            clear c14
            replace H := Option.bind_eq_some_iff.mp H
            obtain ⟨t201, A150, H⟩ := H
            replace H : (some (x9_1, (t201 == 0))) = some (r1, r2) := H
            have A15 := Aside0.mk A150
            clear A150
            simp only [Option.some.injEq, Prod.mk.injEq] at H
            obtain ⟨rfl, rfl⟩ := H
            have p200 : 0 ≤ (x9_1 : Int) := of_decide_eq_true (by first | (with_reducible assumption) | assumption)
            have q200 : x9_1 < (l0.length : Int) := of_decide_eq_true (by first | (with_reducible assumption) | assumption)
            obtain ⟨ad200, e200, hx200_0, hx200_1⟩ := at_T54 HR0.out x9_1 p200 q200
            cases e200
            replace hx200_0 := (HB.out.cell (World.block_lt_of_cell? w _ hx200_0)).trans hx200_0
            replace hx200_1 := (HB.out.cell (World.block_lt_of_cell? w _ hx200_1)).trans hx200_1
            replace p200 := eq_true p200
            replace q200 := eq_true q200
            go_wp2_with (first | (go_at_call 47; (with_reducible refine (data_file_kept_1.calls ((rd_T54 l0 x9_1).f0) ((rd_T54 l0 x9_1).f1) a1 t201 _ A15.out).mono ?_); rintro e w16 ⟨rfl, hb⟩; replace HB := hb_ hb; (try clear hb); (try clear hb2); (try clear hk); (try clear hi)))
            go_ret2
            exact ⟨by first | rfl | (simp [errW_none, errW_some] <;> rfl) | (simp [*, errW_none, errW_some] <;> rfl), bel_⟩
          rw [if_neg c14] at H
          exact absurd H (by simp)
        rw [if_neg c13] at H
        exact absurd H (by simp)
      rw [if_neg c12] at H
      have c12b0 : decide (x9_1 < (l0.length : Int)) = false := decide_eq_false c12
      clear c12
      simp only [Option.some.injEq, Prod.mk.injEq] at H
      obtain ⟨rfl, rfl⟩ := H
      go_wp2
      go_ret2
      exact ⟨by first | rfl | (simp [errW_none, errW_some] <;> rfl) | (simp [*, errW_none, errW_some] <;> rfl), bel_⟩

end Go.Proofs.YtnngbhdofgodiaaGreatDoor.Z
end

section
/- data.file: a chunk's key, what is kept of a chunk. -/
namespace Go.Proofs.YtnngbhdofgodiaaGreatDoor.Z
open Go.RowKit Go.Proofs.YtnngbhdofgodiaaGreatDoorW.PrintWords Go.Proofs.YtnngbhdofgodiaaGreatDoorW.PrintLast Go.Proofs.YtnngbhdofgodiaaGreatDoorW.PrintMore
set_option linter.unusedVariables false
set_option linter.unusedSimpArgs false
/-- A file at block g of w: its number, its chunks. -/
def FileAt (w : World) (g : Nat) (ino : Int) (A : Option Addr) (c : Nat) (l : List S54) : Prop :=
  w.heap[g]? = some (.cells #[.int .u32 ino, .slice A l.length c] 68 (0, 0)) ∧ Kd.C k54 w A l.length l ∧ l.length ≤ c
theorem FileAt.below {w w' : World} {g : Nat} {ino : Int} {A : Option Addr} {c : Nat} {l : List S54} (h : FileAt w g ino A c l) (hb : Below w.heap.size w w') : FileAt w' g ino A c l := ⟨blk_below h.1 hb, Kd.C_below h.2.1 hb, h.2.2⟩
def keyF (k : Nat) (ino c : Int) : Option ByteArray := (inode_Key.f k 3 ino ⟨#[]⟩ (c % 4294967296)).bind fun bt => some bt.1
theorem keyF.mono (ino c : Int) : ∀ k, LeO (keyF k ino c) (keyF (k + 1) ino c) := fun k => by
  unfold keyF
  exact LeO.bind (inode_Key.mono _ _ _ _ _) (fun _ => LeO.refl _)
set_option maxRecDepth 100000 in
theorem key_calls (k : Nat) (g : Nat) (ino c : Int) (A : Option Addr) (cp : Nat) (l : List S54) (r : ByteArray) (w : World) (hF : FileAt w g ino A cp l) (h : keyF k ino c = some r) :
    Calls Tryz.prog 33 #[.pointer (some ⟨g, 0, none⟩), .int .i64 c] w fun e w' => e = .returned (.string r) ∧ Below w.heap.size w w' := by
  have q0 : w.cell? ⟨g, 0, none⟩ = some (.int .u32 ino) := (blk_cell hF.1 0).trans rfl
  unfold keyF at h
  obtain ⟨⟨r1, r2⟩, h1, h2⟩ := Option.bind_eq_some_iff.mp h
  obtain rfl := Option.some.inj h2
  have H := Aside0.mk h1
  clear h h1 h2 hF
  go_enter Tryz.func33, Tryz.ntmps33
  go_wp2_with (go_at_call 43; with_reducible refine (inode_Key.calls k 3 ino ⟨#[]⟩ (c % 4294967296) r1 r2 _ H.out).mono ?_; rintro e w1 ⟨rfl, hb⟩; have B1 := Aside0.mk hb; clear hb)
  go_ret
  exact ⟨rfl, B1.out⟩
def keptF (k : Nat) (ino : Int) (l : List S54) (c : Int) : Option (ByteArray × Bool) := (keyF k ino c).bind fun s => (slices_BinarySearchFunc_api_Item_api_Item_string_fn47.f k l s).bind fun q =>
  if q.2 = true then (if 0 ≤ q.1 ∧ q.1 < (l.length : Int) then some ((rd_T54 l q.1).f1, true) else none) else some (⟨#[]⟩, false)
theorem keptF.mono (ino : Int) (l : List S54) (c : Int) : ∀ k, LeO (keptF k ino l c) (keptF (k + 1) ino l c) := fun k => by
  unfold keptF
  exact LeO.bind (keyF.mono _ _ _) (fun _ => LeO.bind (slices_BinarySearchFunc_api_Item_api_Item_string_fn47.mono _ _ _) (fun _ => LeO.refl _))
set_option maxRecDepth 100000 in
set_option maxHeartbeats 3200000 in
theorem kept_calls (k : Nat) (g : Nat) (ino c : Int) (A : Option Addr) (cp : Nat) (l : List S54) (r1 : ByteArray) (r2 : Bool) (w : World) (hF : FileAt w g ino A cp l) (h : keptF k ino l c = some (r1, r2)) :
    Calls Tryz.prog 31 #[.pointer (some ⟨g, 0, none⟩), .int .i64 c] w fun e w' => e = .returned (.tuple #[.string r1, .bool r2]) ∧ Below w.heap.size w w' := by
  have q1 : w.cell? ⟨g, 1, none⟩ = some (.slice A l.length cp) := (blk_cell hF.1 1).trans rfl
  unfold keptF at h
  obtain ⟨s, h1, h⟩ := Option.bind_eq_some_iff.mp h
  obtain ⟨⟨i, is⟩, h2, h⟩ := Option.bind_eq_some_iff.mp h
  have HF := Aside0.mk hF
  have H1 := Aside0.mk h1
  have H2 := Aside0.mk h2
  have H3 := Aside0.mk h
  clear h h1 h2 hF
  go_enter Tryz.func31, Tryz.ntmps31
  go_wp2
  go_region_held3 (fun w' => w'.cell? ⟨g, 1, none⟩ = some (.slice A l.length cp)) (first | exact q1 | exact q2 | exact q3) (first
    | (go_at_call 33; refine (key_calls k g ino c A cp l s _ (HF.out.below (by first | exact Below.refl _ _ | exact below_drew1 (Below.refl _ _) | exact pw_below_drewN (Below.refl _ _) _)) H1.out).mono ?_; rintro e w1 ⟨rfl, hb⟩; have F1 := Aside0.mk ((HF.out.below (by first | exact Below.refl _ _ | exact below_drew1 (Below.refl _ _) | exact pw_below_drewN (Below.refl _ _) _)).below hb); have B1 := Aside0.mk (below_step (by first | exact Below.refl _ _ | exact below_drew1 (Below.refl _ _) | exact pw_below_drewN (Below.refl _ _) _) hb); have q2 : w1.cell? ⟨g, 1, none⟩ = some (.slice A l.length cp) := (blk_cell F1.out.1 1).trans rfl; clear hb)
    | (go_at_call 35; refine (slices_BinarySearchFunc_api_Item_api_Item_string_fn47.calls k A cp l s i is _ F1.out.2.1 F1.out.2.2 H2.out).mono ?_; rintro e w2 ⟨rfl, hb⟩; have F2 := Aside0.mk (F1.out.below hb); have B2 := Aside0.mk (below_step B1.out hb); have q3 : w2.cell? ⟨g, 1, none⟩ = some (.slice A l.length cp) := (blk_cell F2.out.1 1).trans rfl; clear hb))
  clear q1 q2
  have hB := Aside0.mk ((below_drew1 (Below.refl w.heap.size w)).trans B2.out)
  cases is with
  | false =>
    have h3 := H3.out
    rw [if_neg (by decide)] at h3
    have h4 := Option.some.inj h3
    simp only [Prod.mk.injEq] at h4
    obtain ⟨rfl, rfl⟩ := h4
    clear h3
    go_wp2
    go_ret2
    exact ⟨rfl, hB.out⟩
  | true =>
    have h3 := H3.out
    rw [if_pos rfl] at h3
    split at h3
    · rename_i hi
      have h4 := Option.some.inj h3
      simp only [Prod.mk.injEq] at h4
      obtain ⟨rfl, rfl⟩ := h4
      obtain ⟨ad, hA, k0, k1⟩ := at_T54 F2.out.2.1 i hi.1 hi.2
      subst hA
      have p0 := eq_true hi.1
      have p1 := eq_true hi.2
      clear h3 hi
      go_wp2
      go_ret2
      exact ⟨rfl, hB.out⟩
    · cases h3
end Go.Proofs.YtnngbhdofgodiaaGreatDoor.Z
end

section
/- data.file: a chunk's bytes, the change by which a chunk has bytes. -/
namespace Go.Proofs.YtnngbhdofgodiaaGreatDoor.Z
open Go.RowKit Go.Proofs.YtnngbhdofgodiaaGreatDoorW.PrintWords Go.Proofs.YtnngbhdofgodiaaGreatDoorW.PrintLast Go.Proofs.YtnngbhdofgodiaaGreatDoorW.PrintMore
set_option linter.unusedVariables false
set_option linter.unusedSimpArgs false
/-- Bytes in memory. -/
def bb (l : List UInt8) : Obj := .cells (Lib.byteCells l).toArray 5 (0, 0)
/-- What there is behind a copy of s onto the place o, where there is room for n. -/
def over (l s : List UInt8) (o n : Nat) : List UInt8 := l.take o ++ s.take n ++ l.drop (o + min s.length n)
theorem byteCells_append (a b : List UInt8) : Lib.byteCells (a ++ b) = Lib.byteCells a ++ Lib.byteCells b := by simp [Lib.byteCells]
theorem over_len (l s : List UInt8) (o n : Nat) (h : o + n ≤ l.length) : (over l s o n).length = l.length := by
  unfold over
  simp only [List.length_append, List.length_take, List.length_drop]
  omega
theorem run_copy_str {P : Program} (w : World) (dT sT ty elem : TypeId) (g o dLen dCap : Nat) (s : ByteArray) (cur : Array Value) (t : TypeId)
    (hu : P.underlying dT = some (.slice elem)) (hs : (P.info? elem).map (·.size) = some 1) (hg : w.heap[g]? = some (.cells cur t (0, 0))) (hfit : o + dLen ≤ cur.size) :
    (Builtin.copy_ #[dT, sT] ty #[.slice (some ⟨g, o, none⟩) dLen dCap, .string s]).run P w =
      .ok (goInt (min s.size dLen : Nat)) (w.setRow g (cur.toList.take o ++ Lib.byteCells (s.data.toList.take dLen) ++ cur.toList.drop (o + min s.size dLen)).toArray) := by
  have hsz := Lib.size_eq s
  have hlen : (Lib.byteCells (s.data.toList.take dLen)).length = min s.size dLen := by rw [Lib.byteCells_length, List.length_take, ← hsz, Nat.min_comm]
  have hst := run_storeCells_at P g o t (Lib.byteCells (s.data.toList.take dLen)) 0 cur w hg (by rw [hlen]; simp; omega) (Lib.byteCells_one _)
  have htk : List.take (Nat.min s.size dLen) (List.map (fun b : UInt8 => Value.int IntKind.u8 (b.toNat : Int)) s.data.toList) = Lib.byteCells (s.data.toList.take dLen) := by
    unfold Lib.byteCells
    rw [List.map_take]
    have e : ∀ l : List Value, l.length = s.size → l.take (Nat.min s.size dLen) = l.take dLen := fun l hl => by
      by_cases h : s.size ≤ dLen
      · rw [show Nat.min s.size dLen = s.size from Nat.min_eq_left h, List.take_of_length_le (by omega), List.take_of_length_le (by omega)]
      · rw [show Nat.min s.size dLen = dLen from Nat.min_eq_right (by omega)]
    exact e _ (by rw [List.length_map, ← hsz])
  rw [hlen] at hst
  simp only [Nat.add_zero] at hst
  cases hq : P.info? elem with
  | none => simp [hq] at hs
  | some i =>
    simp [Builtin.copy_, run_underlying hu, Builtin.lenOf, Builtin.firstCells, sizeOf, typeInfo, hq]
    rw [htk, hst]
    simp [Result.andThen]
theorem copy_event {P : Program} {ops : Array Oper} {rest : List Oper} {o : Oper} {a : Act} {Q : Exit → Act → World → Prop} {W : World} (hgd : o.guard = none) (d x : Operand) (dT sT elem : TypeId) (hop : o.op = .call { callee := .builtin .copy, args := #[d, x], argTypes := #[dT, sT] })
    (hu : P.underlying dT = some (.slice elem)) (hs : (P.info? elem).map (·.size) = some 1) (g off dLen dCap : Nat) (hd : a.eval d = .slice (some ⟨g, off, none⟩) dLen dCap) (s : ByteArray) (hx : a.eval x = .string s) (cur : Array Value) (t : TypeId)
    (hg : W.heap[g]? = some (.cells cur t (0, 0))) (hfit : off + dLen ≤ cur.size)
    (h : wpList P ops Q rest (a.put o.dst (goInt (min s.size dLen : Nat))) (W.setRow g (cur.toList.take off ++ Lib.byteCells (s.data.toList.take dLen) ++ cur.toList.drop (off + min s.size dLen)).toArray)) : wpList P ops Q (o :: rest) a W := by
  refine wpList_plain hgd fun K hK => ?_
  have hrun := run_copy_str (P := P) W dT sT o.type elem g off dLen dCap s cur t hu hs hg hfit
  unfold Oper.wp
  simp [execOp, hop, resolve, invoke, builtin, hd, hx, hrun, Result.andThen]
  have h' := hK _ _ h
  simp only [List.append_assoc] at h'
  exact h'
/-- The copy, told of bytes. -/
theorem bb_copy {W : World} {g : Nat} {l : List UInt8} (h : W.heap[g]? = some (bb l)) (s : ByteArray) (o n : Nat) :
    (W.setRow g ((Lib.byteCells l).toArray.toList.take o ++ Lib.byteCells (s.data.toList.take n) ++ (Lib.byteCells l).toArray.toList.drop (o + min s.size n)).toArray).heap[g]? = some (bb (over l s.data.toList o n)) := by
  rw [setRow_heap _ g _ _ 5 (0, 0) h]
  unfold bb over
  rw [byteCells_append, byteCells_append, ← Lib.size_eq]
  simp only [Lib.byteCells, List.map_take, List.map_drop]
theorem lit_event {P : Program} {ops : Array Oper} {rest : List Oper} {o : Oper} {a : Act} {Q : Exit → Act → World → Prop} {W : World} {cs : Array Value} {t : TypeId} {n : Nat} (hgd : o.guard = none) (hrun : (execOp a.eval o).run P W = .ok (.value (.slice (some ⟨W.heap.size, 0, none⟩) n n)) (W.alloc (.cells cs t (0, 0))))
    (h : ∀ g, g = W.heap.size → ∀ w1, w1.heap[g]? = some (.cells cs t (0, 0)) → Below W.heap.size W w1 → wpList P ops Q rest (a.put o.dst (.slice (some ⟨g, 0, none⟩) n n)) w1) : wpList P ops Q (o :: rest) a W :=
  Kd.event_run hgd hrun (h _ rfl _ (blk_new W _) (below_alloc (Below.refl _ _) _))
/-- A chunk's bytes, filled up. -/
def padL (s : ByteArray) : List UInt8 := over (List.replicate 128 0) s.data.toList 0 128
theorem padL_len (s : ByteArray) : (padL s).length = 128 := by rw [padL, over_len _ _ _ _ (by simp)]; simp
def bytesF (k : Nat) (ino : Int) (l : List S54) (c : Int) : Option (List UInt8) := (keptF k ino l c).bind fun p => some (padL p.1)
theorem bytesF.mono (ino : Int) (l : List S54) (c : Int) : ∀ k, LeO (bytesF k ino l c) (bytesF (k + 1) ino l c) := fun k => by
  unfold bytesF
  exact LeO.bind (keptF.mono _ _ _ _) (fun _ => LeO.refl _)
theorem made128 : madeCells (Value.int .u8 0).cells (128 * 1) = (Lib.byteCells (List.replicate 128 0)).toArray := by kernel_rfl
theorem info_u8 : (Tryz.prog.info? 5).map (fun i => (i.zero, i.size, i.bytes)) = some (some (.int .u8 0), 1, 1) := by kernel_rfl
theorem make128 (w : World) : (Instr.makeSlice 40 (.int .i64 128) (.int .i64 128)).run Tryz.prog w = .ok (.slice (some ⟨w.heap.size, 0, none⟩) 128 128) (w.alloc (.cells (Lib.byteCells (List.replicate 128 0)).toArray 5 (0, 0))) := by
  obtain ⟨i, hi, hz, hs, hb⟩ := info_parts info_u8
  have h := run_makeSlice (w := w) 40 5 i (.int .u8 0) Tryz.underlying40 hi hz .i64 .i64 128 128 (by decide) (by decide) (by rw [hs]; decide) (by rw [hb]; decide) (by decide)
  rw [hs] at h
  rw [h]
  exact congrArg (fun c => Result.ok (Value.slice (some ⟨w.heap.size, 0, none⟩) 128 128) (w.alloc (.cells c 5 (0, 0)))) made128
theorem size_u8 : (Tryz.prog.info? 5).map (·.size) = some 1 := by kernel_rfl
set_option maxRecDepth 100000 in
set_option maxHeartbeats 3200000 in
theorem bytes_calls (k : Nat) (g : Nat) (ino c : Int) (A : Option Addr) (cp : Nat) (l : List S54) (r : List UInt8) (w : World) (hF : FileAt w g ino A cp l) (h : bytesF k ino l c = some r) :
    Calls Tryz.prog 15 #[.pointer (some ⟨g, 0, none⟩), .int .i64 c] w fun e w' => ∃ gb, e = .returned (.slice (some ⟨gb, 0, none⟩) 128 128) ∧ w.heap.size ≤ gb ∧ w'.heap[gb]? = some (bb r) ∧ Below w.heap.size w w' := by
  unfold bytesF at h
  obtain ⟨⟨s, is⟩, h1, h⟩ := Option.bind_eq_some_iff.mp h
  obtain rfl := Option.some.inj h
  have HF := Aside0.mk hF
  have H1 := Aside0.mk h1
  have mk := make128 w
  clear h h1 hF
  go_enter Tryz.func15, Tryz.ntmps15
  go_wp2_with (first
    | ((with_reducible refine gate_dst (N := 8) rfl ?_); refine lit_event (cs := (Lib.byteCells (List.replicate 128 0)).toArray) (t := 5) (n := 128) ?hg ?hr ?_; (case hg => rfl); (case hr => first | (go_simp; done) | (go_simp; rfl)); intro gb hgb w1 hx hb; have BX := Aside0.mk (show w1.heap[gb]? = some (bb (List.replicate 128 0)) from hx); have BB := Aside0.mk hb; have GG := Aside0.mk (show w.heap.size ≤ gb by omega); clear hx hb hgb mk)
    | (go_at_call 31; refine (kept_calls k g ino c A cp l s is _ (HF.out.below BB.out) H1.out).mono ?_; rintro e w2 ⟨rfl, hb⟩; have BX2 := Aside0.mk (blk_below BX.out hb); have B2 := Aside0.mk (below_step BB.out hb); clear hb)
    | (refine copy_event rfl (.tmp 15) (.tmp 16) 40 9 5 rfl Tryz.underlying40 size_u8 gb 0 128 128 rfl s rfl _ 5 BX2.out (by simp [Lib.byteCells]) ?_; generalize hw3 : World.setRow w2 gb _ = w3; have BX3 := Aside0.mk (show w3.heap[gb]? = some (bb (padL s)) by rw [← hw3]; exact bb_copy BX2.out s 0 128); have B3 := Aside0.mk (show Below w.heap.size w w3 by rw [← hw3]; exact below_setRow B2.out GG.out _); clear hw3))
  go_ret
  exact ⟨gb, rfl, GG.out, BX3.out, B3.out⟩
def keepF (k : Nat) (ino : Int) (l : List S54) (c : Int) (b : ByteArray) : Option (List S43) := (strings_TrimRight.f b ⟨#[0]⟩).bind fun t => (keptF k ino l c).bind fun p =>
  if p.2 = (!t.toList.isEmpty) ∧ p.1.toList = t.toList then some [] else (keyF k ino c).bind fun kk => some [⟨kk, !t.toList.isEmpty, t⟩]
theorem keepF.mono (ino : Int) (l : List S54) (c : Int) (b : ByteArray) : ∀ k, LeO (keepF k ino l c b) (keepF (k + 1) ino l c b) := fun k => by
  unfold keepF
  exact LeO.bind (LeO.refl _) (fun _ => LeO.bind (keptF.mono _ _ _ _) (fun _ => LeO.ite (LeO.refl _) (LeO.bind (keyF.mono _ _ _) (fun _ => LeO.refl _))))
set_option maxRecDepth 100000 in
set_option maxHeartbeats 3200000 in
theorem keep_calls (k : Nat) (g : Nat) (ino c : Int) (b : ByteArray) (A : Option Addr) (cp : Nat) (l : List S54) (r : List S43) (w : World) (hF : FileAt w g ino A cp l) (h : keepF k ino l c b = some r) :
    Calls Tryz.prog 16 #[.pointer (some ⟨g, 0, none⟩), .int .i64 c, .string b] w fun e w' => ∃ v, e = .returned v ∧ k43.R 43 w' w.heap.size (fun _ => True) v r ∧ Below w.heap.size w w' := by
  unfold keepF at h
  obtain ⟨t, h0, h⟩ := Option.bind_eq_some_iff.mp h
  obtain ⟨⟨s, is⟩, h1, h⟩ := Option.bind_eq_some_iff.mp h
  have HF := Aside0.mk hF
  have H0 := Aside0.mk h0
  have H1 := Aside0.mk h1
  clear h0 h1 hF
  by_cases hc : is = (!t.toList.isEmpty) ∧ s.toList = t.toList
  · rw [if_pos hc] at h
    obtain rfl := Option.some.inj h
    have c0 := hc.1
    have c1 : (s.toList == t.toList) = true := beq_iff_eq.2 hc.2
    clear hc h
    go_enter Tryz.func16, Tryz.ntmps16
    go_wp2_with (first
          | (go_at_call 32; refine (strings_TrimRight.calls b ⟨#[0]⟩ t _ H0.out).mono ?_; rintro e w1 ⟨rfl, ⟨nd, hnd⟩⟩; have B1 := Aside0.mk (show Below w.heap.size w w1 by rw [hnd]; exact pw_below_drewN (Below.refl _ _) nd); clear hnd)
          | (go_at_call 31; refine (kept_calls k g ino c A cp l s is _ (HF.out.below B1.out) H1.out).mono ?_; rintro e w2 ⟨rfl, hb⟩; have B2 := Aside0.mk (below_step B1.out hb); clear hb))
    go_ret
    exact ⟨_, rfl, Kd.R_nil _ _ _ _ _, B2.out⟩
  · rw [if_neg hc] at h
    obtain ⟨kk, h2, h⟩ := Option.bind_eq_some_iff.mp h
    obtain rfl := Option.some.inj h
    have H2 := Aside0.mk h2
    clear h h2
    by_cases c0 : is = (!t.toList.isEmpty)
    · have c1 : (s.toList == t.toList) = false := beq_eq_false_iff_ne.2 (fun e => hc ⟨c0, e⟩)
      clear hc
      go_enter Tryz.func16, Tryz.ntmps16
      go_wp2_with (first
            | (go_at_call 32; refine (strings_TrimRight.calls b ⟨#[0]⟩ t _ H0.out).mono ?_; rintro e w1 ⟨rfl, ⟨nd, hnd⟩⟩; have B1 := Aside0.mk (show Below w.heap.size w w1 by rw [hnd]; exact pw_below_drewN (Below.refl _ _) nd); clear hnd)
            | (go_at_call 31; refine (kept_calls k g ino c A cp l s is _ (HF.out.below B1.out) H1.out).mono ?_; rintro e w2 ⟨rfl, hb⟩; have B2 := Aside0.mk (below_step B1.out hb); clear hb)
            | (go_at_call 33; refine (key_calls k g ino c A cp l kk _ (HF.out.below B2.out) H2.out).mono ?_; rintro e w3 ⟨rfl, hb⟩; have B3 := Aside0.mk (below_step B2.out hb); clear hb)
            | ((with_reducible refine gate_dst (N := 33) rfl ?_); refine Kd.R_lit k43 _ 43 ?hg (N := 33) ?hd (xs := [(⟨kk, !t.toList.isEmpty, t⟩ : S43)]) (inner := [.string kk, .bool (!t.toList.isEmpty), .string t]) (ok := fun _ => True) (okp := fun _ => True) ?hr ?hp (fun _ hk => hk) trivial (Below.refl _ _) (Nat.le_refl _) (by simp) ?_; (case hd => rfl); (case hg => rfl); (case hr => first | (go_simp; done) | (go_simp; rfl)); (case hp => exact (Reps.c3 (show Kd.M k43 _ _ _ (⟨kk, !t.toList.isEmpty, t⟩ : S43) [.string kk, .bool (!t.toList.isEmpty), .string t] from (k43_mkM _ _ _ (⟨kk, !t.toList.isEmpty, t⟩ : S43) )) (Reps.none _ _))); intro v w4 ho hb hg_ hnew_; have HO := Aside0.mk (Kd.R_lower ho B3.out.size); have B4 := Aside0.mk (below_step B3.out hb); clear ho hb hg_ hnew_))
      go_ret
      exact ⟨_, rfl, HO.out, B4.out⟩
    · clear hc
      go_enter Tryz.func16, Tryz.ntmps16
      go_wp2_with (first
            | (go_at_call 32; refine (strings_TrimRight.calls b ⟨#[0]⟩ t _ H0.out).mono ?_; rintro e w1 ⟨rfl, ⟨nd, hnd⟩⟩; have B1 := Aside0.mk (show Below w.heap.size w w1 by rw [hnd]; exact pw_below_drewN (Below.refl _ _) nd); clear hnd)
            | (go_at_call 31; refine (kept_calls k g ino c A cp l s is _ (HF.out.below B1.out) H1.out).mono ?_; rintro e w2 ⟨rfl, hb⟩; have B2 := Aside0.mk (below_step B1.out hb); clear hb)
            | (go_at_call 33; refine (key_calls k g ino c A cp l kk _ (HF.out.below B2.out) H2.out).mono ?_; rintro e w3 ⟨rfl, hb⟩; have B3 := Aside0.mk (below_step B2.out hb); clear hb)
            | ((with_reducible refine gate_dst (N := 33) rfl ?_); refine Kd.R_lit k43 _ 43 ?hg (N := 33) ?hd (xs := [(⟨kk, !t.toList.isEmpty, t⟩ : S43)]) (inner := [.string kk, .bool (!t.toList.isEmpty), .string t]) (ok := fun _ => True) (okp := fun _ => True) ?hr ?hp (fun _ hk => hk) trivial (Below.refl _ _) (Nat.le_refl _) (by simp) ?_; (case hd => rfl); (case hg => rfl); (case hr => first | (go_simp; done) | (go_simp; rfl)); (case hp => exact (Reps.c3 (show Kd.M k43 _ _ _ (⟨kk, !t.toList.isEmpty, t⟩ : S43) [.string kk, .bool (!t.toList.isEmpty), .string t] from (k43_mkM _ _ _ (⟨kk, !t.toList.isEmpty, t⟩ : S43) )) (Reps.none _ _))); intro v w4 ho hb hg_ hnew_; have HO := Aside0.mk (Kd.R_lower ho B3.out.size); have B4 := Aside0.mk (below_step B3.out hb); clear ho hb hg_ hnew_))
      go_ret
      exact ⟨_, rfl, HO.out, B4.out⟩
end Go.Proofs.YtnngbhdofgodiaaGreatDoor.Z
end

section
/- data.open: an inode's chunks. -/
namespace Go.Proofs.YtnngbhdofgodiaaGreatDoor.Z
open Go.RowKit Go.Proofs.YtnngbhdofgodiaaGreatDoorW.PrintWords Go.Proofs.YtnngbhdofgodiaaGreatDoorW.PrintLast Go.Proofs.YtnngbhdofgodiaaGreatDoorW.PrintMore
set_option linter.unusedVariables false
set_option linter.unusedSimpArgs false
def openF (k : Nat) (l : List IT) (ino : Int) : Option (List IT × Int) := (inode_Prefix.f k 3 ino).bind fun p => (item_Under.f k l p).bind fun u => (delF k u.1).bind fun d => some (d, if u.2 = 0 ∧ ino = 0 then 1 else u.2)
theorem openF.mono (l : List IT) (ino : Int) : ∀ k, LeO (openF k l ino) (openF (k + 1) l ino) := fun k => by
  unfold openF
  exact LeO.bind (inode_Prefix.mono _ _ _) (fun _ => LeO.bind (item_Under.mono _ _ _) (fun _ => LeO.bind (delF.mono _ _) (fun _ => LeO.refl _)))
set_option maxRecDepth 100000 in
set_option maxHeartbeats 3200000 in
theorem open_calls (k : Nat) (A : Option Addr) (cp : Nat) (l : List IT) (ino : Int) (r1 : List IT) (r2 : Int) (w : World) (hC : Kd.C k54 w A l.length l) (hc : l.length ≤ cp) (h : openF k l ino = some (r1, r2)) :
    Calls Tryz.prog 14 #[.slice A l.length cp, .int .u32 ino] w fun e w' => ∃ g A' c', e = .returned (.tuple #[.pointer (some ⟨g, 0, none⟩), .int .i64 r2]) ∧ FileAt w' g ino A' c' r1 ∧ w.heap.size ≤ g ∧ Below w.heap.size w w' := by
  unfold openF at h
  obtain ⟨p, h1, h⟩ := Option.bind_eq_some_iff.mp h
  obtain ⟨⟨u1, u2⟩, h2, h⟩ := Option.bind_eq_some_iff.mp h
  obtain ⟨d, h3, h⟩ := Option.bind_eq_some_iff.mp h
  have h4 := Option.some.inj h
  simp only [Prod.mk.injEq] at h4
  obtain ⟨rfl, rfl⟩ := h4
  have H1 := Aside0.mk h1
  have H2 := Aside0.mk h2
  have H3 := Aside0.mk h3
  have HC := Aside0.mk hC
  have HP := Aside0.mk hc
  clear h h1 h2 h3 hC hc
  by_cases c0 : u2 = 0
  · subst c0
    by_cases c1 : ino = 0
    · subst c1
      go_enter Tryz.func14, Tryz.ntmps14
      go_wp2_with (first
        | (go_at_call 28; refine (inode_Prefix.calls k 3 0 p _ H1.out).mono ?_; rintro e w1 ⟨rfl, hb⟩; have B1 := Aside0.mk hb; clear hb)
        | (go_at_call 27; refine (item_Under.calls k A cp l p u1 0 _ (Kd.C_below HC.out B1.out) HP.out H2.out).mono ?_; rintro e w2 ⟨v2, rfl, ho, hb⟩; have R2 := Aside0.mk (Kd.R_lower ho B1.out.size); have B2 := Aside0.mk (below_step B1.out hb); clear hb ho)
        | (go_at_call 29; refine (del_calls k v2 u1 d w _ B2.out R2.out H3.out).mono ?_; rintro e w3 ⟨A3, c3, rfl, hc3, hC3, hb⟩; have C3 := Aside0.mk hC3; have P3 := Aside0.mk hc3; have B3 := Aside0.mk hb; clear hb hC3 hc3)
        | ((with_reducible refine gate_dst (N := 26) rfl ?_); refine box_event ?hg (N := 26) ?hd (cs := #[.int .u32 0, .slice A3 d.length c3]) (t := 68) ?hr ?_; (case hd => rfl); (case hg => rfl); (case hr => first | (go_simp; done) | (go_simp; rfl)); intro g hg w4 hx hb; have F4 := Aside0.mk (show FileAt w4 g 0 A3 c3 d from ⟨hx, Kd.C_below C3.out hb, P3.out⟩); have B4 := Aside0.mk (below_step B3.out hb); have GG := Aside0.mk (show w.heap.size ≤ g by have := B3.out.size; omega); clear hx hb hg))
      go_ret2
      first | exact ⟨g, A3, c3, by rfl, F4.out, GG.out, B4.out⟩ | exact ⟨g, by first | rfl | simp, ⟨A3, c3, F4.out⟩, GG.out, B4.out⟩
    · have k1 : (ino == 0) = false := beq_eq_false_iff_ne.2 c1
      have k2 : (if (0 : Int) = 0 ∧ ino = 0 then (1 : Int) else 0) = 0 := if_neg (fun h => c1 h.2)
      rw [k2]
      clear c1
      go_enter Tryz.func14, Tryz.ntmps14
      go_wp2_with (first
        | (go_at_call 28; refine (inode_Prefix.calls k 3 ino p _ H1.out).mono ?_; rintro e w1 ⟨rfl, hb⟩; have B1 := Aside0.mk hb; clear hb)
        | (go_at_call 27; refine (item_Under.calls k A cp l p u1 0 _ (Kd.C_below HC.out B1.out) HP.out H2.out).mono ?_; rintro e w2 ⟨v2, rfl, ho, hb⟩; have R2 := Aside0.mk (Kd.R_lower ho B1.out.size); have B2 := Aside0.mk (below_step B1.out hb); clear hb ho)
        | (go_at_call 29; refine (del_calls k v2 u1 d w _ B2.out R2.out H3.out).mono ?_; rintro e w3 ⟨A3, c3, rfl, hc3, hC3, hb⟩; have C3 := Aside0.mk hC3; have P3 := Aside0.mk hc3; have B3 := Aside0.mk hb; clear hb hC3 hc3)
        | ((with_reducible refine gate_dst (N := 26) rfl ?_); refine box_event ?hg (N := 26) ?hd (cs := #[.int .u32 ino, .slice A3 d.length c3]) (t := 68) ?hr ?_; (case hd => rfl); (case hg => rfl); (case hr => first | (go_simp; done) | (go_simp; rfl)); intro g hg w4 hx hb; have F4 := Aside0.mk (show FileAt w4 g ino A3 c3 d from ⟨hx, Kd.C_below C3.out hb, P3.out⟩); have B4 := Aside0.mk (below_step B3.out hb); have GG := Aside0.mk (show w.heap.size ≤ g by have := B3.out.size; omega); clear hx hb hg))
      go_ret2
      first | exact ⟨g, A3, c3, by rfl, F4.out, GG.out, B4.out⟩ | exact ⟨g, by first | rfl | simp, ⟨A3, c3, F4.out⟩, GG.out, B4.out⟩
  · have k1 : (u2 == 0) = false := beq_eq_false_iff_ne.2 c0
    have k2 : (if u2 = 0 ∧ ino = 0 then (1 : Int) else u2) = u2 := if_neg (fun h => c0 h.1)
    rw [k2]
    clear c0
    go_enter Tryz.func14, Tryz.ntmps14
    go_wp2_with (first
      | (go_at_call 28; refine (inode_Prefix.calls k 3 ino p _ H1.out).mono ?_; rintro e w1 ⟨rfl, hb⟩; have B1 := Aside0.mk hb; clear hb)
      | (go_at_call 27; refine (item_Under.calls k A cp l p u1 u2 _ (Kd.C_below HC.out B1.out) HP.out H2.out).mono ?_; rintro e w2 ⟨v2, rfl, ho, hb⟩; have R2 := Aside0.mk (Kd.R_lower ho B1.out.size); have B2 := Aside0.mk (below_step B1.out hb); clear hb ho)
      | (go_at_call 29; refine (del_calls k v2 u1 d w _ B2.out R2.out H3.out).mono ?_; rintro e w3 ⟨A3, c3, rfl, hc3, hC3, hb⟩; have C3 := Aside0.mk hC3; have P3 := Aside0.mk hc3; have B3 := Aside0.mk hb; clear hb hC3 hc3)
      | ((with_reducible refine gate_dst (N := 26) rfl ?_); refine box_event ?hg (N := 26) ?hd (cs := #[.int .u32 ino, .slice A3 d.length c3]) (t := 68) ?hr ?_; (case hd => rfl); (case hg => rfl); (case hr => first | (go_simp; done) | (go_simp; rfl)); intro g hg w4 hx hb; have F4 := Aside0.mk (show FileAt w4 g ino A3 c3 d from ⟨hx, Kd.C_below C3.out hb, P3.out⟩); have B4 := Aside0.mk (below_step B3.out hb); have GG := Aside0.mk (show w.heap.size ≤ g by have := B3.out.size; omega); clear hx hb hg))
    go_ret2
    first | exact ⟨g, A3, c3, by rfl, F4.out, GG.out, B4.out⟩ | exact ⟨g, by first | rfl | simp, ⟨A3, c3, F4.out⟩, GG.out, B4.out⟩
end Go.Proofs.YtnngbhdofgodiaaGreatDoor.Z
end

section
/- (*strings.Builder).Write: bytes go behind what there is. -/
namespace Go.Proofs.YtnngbhdofgodiaaGreatDoor.Z
open Go.RowKit Go.Proofs.YtnngbhdofgodiaaGreatDoorW.PrintWords Go.Proofs.YtnngbhdofgodiaaGreatDoorW.PrintLast Go.Proofs.YtnngbhdofgodiaaGreatDoorW.PrintMore
set_option linter.unusedVariables false
set_option linter.unusedSimpArgs false
theorem size_bld : (Tryz.prog.info? 61).map (·.size) = some 2 := by kernel_rfl
theorem lies_bld : liesAt Tryz.prog Tryz.prog.depth 61 (2 / Tryz.prog.cellsOf 61) 0 61 1 = true := by kernel_rfl
set_option maxRecDepth 100000 in
theorem check_used (b : Nat) (w : World) (h0 : w.cell? ⟨b, 0, none⟩ = some (.pointer (some ⟨b, 0, none⟩))) :
    Calls Tryz.prog 40 #[.pointer (some ⟨b, 0, none⟩)] w fun e w' => e = .returned (.tuple #[]) ∧ w' = w := by
  obtain ⟨j, hj, _⟩ := Option.map_eq_some_iff.1 size_bld
  have hn := Lib.run_neq_ptr_same (P := Tryz.prog) w ⟨b, 0, none⟩ Tryz.underlying59 hj
  go_enter Tryz.func40, Tryz.ntmps40
  go_wp2
  go_end0
  exact ⟨rfl, rfl⟩
set_option maxRecDepth 100000 in
theorem check_fresh (b : Nat) (w : World) (h0 : w.cell? ⟨b, 0, none⟩ = some (.pointer none)) (hfz : w.frozen? ⟨b, 0, none⟩ = false) (hsh : w.shape? b = some (61, 2)) :
    Calls Tryz.prog 40 #[.pointer (some ⟨b, 0, none⟩)] w fun e w' => e = .returned (.tuple #[]) ∧ w' = w.setCell ⟨b, 0, none⟩ (.pointer (some ⟨b, 0, none⟩)) := by
  obtain ⟨j, hj, hjs⟩ := Option.map_eq_some_iff.1 size_bld
  have hto := Lib.run_to_unsafe (P := Tryz.prog) w ⟨b, 0, none⟩ Tryz.underlying59 Tryz.underlying120 hj (by rw [hjs]; decide) hsh (Nat.zero_lt_succ 1)
  have hfrom := Lib.run_from_unsafe (P := Tryz.prog) w ⟨b, 0, none⟩ Tryz.underlying120 Tryz.underlying59 hj hsh lies_bld
  have hcall := run_callFunc_extern (P := Tryz.prog) (w := w) (args := #[.pointer (some ⟨b, 0, none⟩)]) Tryz.func54 (by kernel_rfl) (by kernel_rfl) (by kernel_rfl) (e := Extern.AbiNoEscape.same) (by kernel_rfl)
  rw [Lib.run_noEscape] at hcall
  go_enter Tryz.func40, Tryz.ntmps40
  go_wp2
  go_end0
  exact ⟨rfl, rfl⟩
theorem bel_le {A B : Nat} {w w' : World} (h : Below A w w') (hle : B ≤ A) : Below B w w' := ⟨h.os, h.tape, h.output, h.size, fun k hk => h.block k (by omega)⟩
theorem check_calls (B b : Nat) (bs : List Value) (w : World) (h : Lib.IsBuilder 61 5 B b bs w) :
    Calls Tryz.prog 40 #[.pointer (some ⟨b, 0, none⟩)] w fun e w' => e = .returned (.tuple #[]) ∧ Lib.BuilderAt 61 5 B b (.pointer (some ⟨b, 0, none⟩)) bs w' ∧ Below B w w' ∧ KeepBut w w' b none := by
  rcases h with h | h
  · refine (check_fresh b w h.cell0 h.frozen0 h.shape).mono ?_
    rintro e w' ⟨rfl, rfl⟩
    exact ⟨rfl, h.used _, (Below.refl B w).setCell (p := ⟨b, 0, none⟩) h.1 _, (KeepBut.refl _ _ _).set_ 0 _⟩
  · refine (check_used b w h.cell0).mono ?_
    rintro e w' ⟨rfl, rfl⟩
    exact ⟨rfl, h, Below.refl B _, KeepBut.refl _ _ _⟩
def encB (b : UInt8) : Value := .int .u8 (b.toNat : Int)
abbrev kB : Kd UInt8 := Kd.scalar encB (fun _ => rfl)
theorem encs_B (l : List UInt8) : encs encB l = Lib.byteCells l := rfl
/-- Bytes in the middle of a row, read. -/
theorem bb_reads {W : World} {g : Nat} {l : List UInt8} (h : W.heap[g]? = some (bb l)) (lo n : Nat) (hn : lo + n ≤ l.length) (hm : n ≤ 9223372036854775807) : kB.C W (some ⟨g, lo, none⟩) n ((l.drop lo).take n) := by
  have hlen : ((l.drop lo).take n).length = n := by rw [List.length_take, List.length_drop]; omega
  refine ⟨hlen, hm, fun _ => ⟨_, rfl, fun j p hj => ⟨[encB p], rfl, rfl, fun i u hu => ?_⟩⟩⟩
  match i, hu with
  | 0, hu =>
    have hjn : j < n := by have := (List.getElem?_eq_some_iff.1 hj).1; omega
    rw [List.getElem?_take, if_pos hjn, List.getElem?_drop] at hj
    have hadd : (⟨g, lo, none⟩ : Addr).add (j * 1 + 0) = ⟨g, lo + j, none⟩ := by
      unfold Addr.add
      split <;> simp_all
    have hadd2 : (⟨g, lo, none⟩ : Addr).add (j * kB.sz + 0) = ⟨g, lo + j, none⟩ := hadd
    rw [hadd2, blk_cell h, List.getElem?_toArray]
    unfold Lib.byteCells
    rw [List.getElem?_map, hj]
    exact hu
set_option maxRecDepth 100000 in
set_option maxHeartbeats 3200000 in
theorem write_calls (B b : Nat) (bs q : List UInt8) (A : Option Addr) (c : Nat) (w : World) (h : Lib.IsBuilder 61 5 B b (Lib.byteCells bs) w) (hC : kB.C w A q.length q) (hA : ∀ ad, A = some ad → ad.block ≠ b ∧ ad.block < w.heap.size) (hlen : bs.length + q.length ≤ 140737488355328) (hBw : B ≤ w.heap.size) :
    Calls Tryz.prog 24 #[.pointer (some ⟨b, 0, none⟩), .slice A q.length c] w fun e w' => e = .returned (.tuple #[.int .i64 q.length, .nilIface]) ∧ Lib.BuilderAt 61 5 B b (.pointer (some ⟨b, 0, none⟩)) (Lib.byteCells (bs ++ q)) w' ∧ Below B w w' := by
  have HH := Aside0.mk h
  have HC := Aside0.mk hC
  have HL := Aside0.mk hlen
  have HW := Aside0.mk hBw
  clear h hC hlen hBw
  go_enter Tryz.func24, Tryz.ntmps24
  go_wp2_with (first
    | (go_at_call 40; refine (check_calls B b _ _ HH.out).mono ?_; rintro e w1 ⟨rfl, h1, hb1, hk1⟩; obtain ⟨hB, v, hbk, hown, hne⟩ := h1; have B1 := Aside0.mk hb1; have HBB := Aside0.mk hB; have K1 := Aside0.mk hbk; have O1 := Aside0.mk (show kB.R 5 w1 B (fun k => k ≠ b) v bs from Kd.R_of_own (by rw [Lib.byteCells_length] at hown; exact hown) (fun k hk e => hne (by rw [hk, e]))); have C1 := Aside0.mk (Kd.C_keep 0 HC.out hk1 (fun ad e _ => (hA ad e).1)); have LT := Aside0.mk (blk_lt hbk); have N1 := Aside0.mk hne; have c1 : w1.cell? ⟨b, 1, none⟩ = some v := (blk_cell hbk 1).trans rfl; clear hb1 hk1 hB hbk hown hne)
    | (at_builtin; refine Kd.R_append_row encB 0 (w0 := w) B rfl (.tmp 12) (.tmp 13) 40 5 (.int .u8 0) 1 rfl Tryz.underlying40 info_u8 rfl (by decide) v bs q A q.length c (fun k => k ≠ b) rfl rfl ?aF O1.out C1.out B1.out ?aS ?aL ?_; (case aF => exact (fun k hk => by have := LT.out; omega)); (case aS => exact Nat.le_trans HW.out B1.out.size); (case aL => have := HL.out; omega); intro v2 w2 ho hb hg hat; obtain ⟨A2, c2, rfl⟩ := Kd.R_slice ho; have O2 := Aside0.mk ho; have B2 := Aside0.mk hb; have K2 := Aside0.mk (blk_grown K1.out hg (fun e => N1.out e.symm)); have d1 : w2.cell? ⟨b, 1, none⟩ = some v := (blk_cell K2.out 1).trans rfl; have f1 : w2.frozen? ⟨b, 1, none⟩ = false := blk_frozen K2.out 1; clear ho hb hg hat c1))
  go_ret2
  refine ⟨rfl, Lib.BuilderAt.put HBB.out K2.out ?_ (by decide), B2.out.setCell (p := ⟨b, 1, none⟩) HBB.out _⟩
  have h := Kd.own_of_R O2.out
  rw [encs_B] at h
  rw [Lib.byteCells_length]
  rw [List.length_append] at h ⊢
  exact h
theorem writeN_calls (B b : Nat) (bs q : List UInt8) (A : Option Addr) (n c : Nat) (w : World) (hn : q.length = n) (h : Lib.IsBuilder 61 5 B b (Lib.byteCells bs) w) (hC : kB.C w A q.length q) (hA : ∀ ad, A = some ad → ad.block ≠ b ∧ ad.block < w.heap.size) (hlen : bs.length + q.length ≤ 140737488355328) (hBw : B ≤ w.heap.size) :
    Calls Tryz.prog 24 #[.pointer (some ⟨b, 0, none⟩), .slice A n c] w fun e w' => e = .returned (.tuple #[.int .i64 n, .nilIface]) ∧ Lib.BuilderAt 61 5 B b (.pointer (some ⟨b, 0, none⟩)) (Lib.byteCells (bs ++ q)) w' ∧ Below B w w' := by
  subst hn
  exact write_calls B b bs q A c w h hC hA hlen hBw
theorem bld_below {B b : Nat} {p : Value} {bs : List UInt8} {w w' : World} (h : Lib.BuilderAt 61 5 B b p (Lib.byteCells bs) w) (hb : Below w.heap.size w w') : Lib.BuilderAt 61 5 B b p (Lib.byteCells bs) w' := by
  obtain ⟨hB, v, hbk, hown, hne⟩ := h
  rw [Lib.byteCells_length] at hown
  refine ⟨hB, v, blk_below hbk hb, ?_, hne⟩
  have hR : kB.R 5 w B (fun _ => True) v bs := Kd.R_of_own hown (fun _ _ => trivial)
  have := Kd.own_of_R (Kd.R_below hR hb)
  rw [Lib.byteCells_length]
  exact this
theorem isB_below {B b : Nat} {bs : List UInt8} {w w' : World} (h : Lib.IsBuilder 61 5 B b (Lib.byteCells bs) w) (hb : Below w.heap.size w w') : Lib.IsBuilder 61 5 B b (Lib.byteCells bs) w' := h.imp (fun x => bld_below x hb) (fun x => bld_below x hb)
theorem isB_new {B b : Nat} {w : World} (hB : B ≤ b) (h : w.heap[b]? = some (.cells #[.pointer none, .slice none 0 0] 61 (0, 0))) : Lib.IsBuilder 61 5 B b (Lib.byteCells []) w :=
  by
  have h0 := Kd.own_of_R (xs := ([] : List UInt8)) (show (Kd.scalar encB (fun _ => rfl)).R 5 w B (fun _ => True) (.slice none 0 0) [] from Kd.R_nil kB 5 w B (fun _ => True))
  exact .inl ⟨hB, _, h, h0, by simp [Value.ownBlock]⟩
end Go.Proofs.YtnngbhdofgodiaaGreatDoor.Z
end

section
/- data.Read. -/
namespace Go.Proofs.YtnngbhdofgodiaaGreatDoor.Z
open Go.RowKit Go.Proofs.YtnngbhdofgodiaaGreatDoorW.PrintWords Go.Proofs.YtnngbhdofgodiaaGreatDoorW.PrintLast Go.Proofs.YtnngbhdofgodiaaGreatDoorW.PrintMore
attribute [local go_sem] max2_int min2_int max_two min_two max_three min_three max_four min_four
set_option linter.unusedVariables false
set_option linter.unusedSimpArgs false
/-- Bytes from a place on, chunk by chunk. -/
def readL (k : Nat) (ino : Int) (l : List IT) (e : Int) : Nat → Int → Int → List UInt8 → Option (List UInt8)
  | 0, _, _, _ => none
  | n + 1, p, c, acc => if p ≥ e then some acc else (bytesF k ino l c).bind fun b =>
    if 0 ≤ c ∧ c ≤ 65536 ∧ 0 ≤ p - c * 128 ∧ p - c * 128 < 128 ∧ p - c * 128 ≤ min e ((c + 1) * 128) - c * 128 ∧ acc.length ≤ 1048576 then readL k ino l e n (min e ((c + 1) * 128)) (c + 1) (acc ++ (b.drop (p - c * 128).toNat).take ((min e ((c + 1) * 128) - c * 128).toNat - (p - c * 128).toNat)) else none
theorem readL.mono (ino : Int) (l : List IT) (e : Int) : ∀ (n : Nat) (p c : Int) (acc : List UInt8) (k : Nat), LeO (readL k ino l e n p c acc) (readL (k + 1) ino l e n p c acc)
  | 0, p, c, acc, k => LeO.refl _
  | n + 1, p, c, acc, k => by
    unfold readL
    exact LeO.ite (LeO.refl _) (LeO.bind (bytesF.mono _ _ _ _) (fun b => LeO.ite (readL.mono ino l e n _ _ _ _) (LeO.refl _)))
def rck (why len : Int) : Int := if why = 0 ∧ len > 65536 then 1 else why
def data_Read.f (k : Nat) (l : List IT) (ino len off n : Int) : Option (ByteArray × Int) := if 0 ≤ len ∧ 0 ≤ off ∧ off < 4294967296 ∧ 0 ≤ n ∧ n < 4294967296 then ((openF k l ino).bind fun o => if rck o.2 len = 0 then (readL k ino o.1 (min len (off + n)) 600 off (off / 128) []).bind fun r => some (⟨r.toArray⟩, 0) else some (⟨#[]⟩, rck o.2 len)) else none
theorem data_Read.mono : ∀ (l : List IT) (ino len off n : Int) (k : Nat), LeO (data_Read.f k l ino len off n) (data_Read.f (k + 1) l ino len off n) := fun l ino len off n k => by
  unfold data_Read.f
  exact LeO.ite (LeO.bind (openF.mono _ _ _) (fun _ => LeO.ite (LeO.bind (readL.mono _ _ _ _ _ _ _ _) (fun _ => LeO.refl _)) (LeO.refl _))) (LeO.none _)
set_option maxRecDepth 100000 in
set_option maxHeartbeats 6400000 in
theorem read_ok_calls (k : Nat) (A : Option Addr) (cp : Nat) (l : List IT) (ino len off n : Int) (o1 : List IT) (r : List UInt8) (w : World) (hC : Kd.C k54 w A l.length l) (hc : l.length ≤ cp) (hl0 : 0 ≤ len) (hl1 : len ≤ 65536) (ho0 : 0 ≤ off) (ho1 : off < 4294967296) (hn0 : 0 ≤ n) (hn1 : n < 4294967296)
    (h1 : openF k l ino = some (o1, 0)) (h2 : readL k ino o1 (min len (off + n)) 600 off (off / 128) [] = some r) :
    Calls Tryz.prog 11 #[.slice A l.length cp, .int .u32 ino, .int .u32 len, .int .u32 off, .int .u32 n] w fun e w' => e = .returned (.tuple #[.string ⟨r.toArray⟩, .int .i64 0]) ∧ Below w.heap.size w w' := by
  have HC := Aside0.mk hC
  have HP := Aside0.mk hc
  have H1 := Aside0.mk h1
  have H2 := Aside0.mk h2
  have k0 : decide (len > 65536) = false := decide_eq_false (by omega)
  have e1 : IntKind.u64.wrap (off + n) = off + n := IntWalk.u64_in _ ⟨by omega, by omega⟩
  have e2 : IntKind.u64.wrap off = off := IntWalk.u64_in _ ⟨by omega, by omega⟩
  have e3 : IntKind.u64.wrap n = n := IntWalk.u64_in _ ⟨by omega, by omega⟩
  have e4 : IntKind.u64.wrap len = len := IntWalk.u64_in _ ⟨by omega, by omega⟩
  have e5 : IntKind.i64.wrap off = off := by rw [IntKind.wrap_i64]; omega
  obtain ⟨E, hE⟩ : ∃ E, E = min len (off + n) := ⟨_, rfl⟩
  have hmin : (if off + n < len then off + n else len) = E := by rw [hE]; split <;> omega
  have e6 : IntKind.i64.wrap E = E := by rw [IntKind.wrap_i64]; omega
  obtain ⟨c0, hc0⟩ : ∃ c0, c0 = off / 128 := ⟨_, rfl⟩
  have e7 : Int.tdiv off 128 = c0 := by rw [hc0]; exact Int.tdiv_eq_ediv_of_nonneg ho0
  have e8 : IntKind.i64.wrap c0 = c0 := by rw [IntKind.wrap_i64]; omega
  rw [← hE, ← hc0] at H2
  have HE := Aside0.mk (show E ≤ 65536 by omega)
  have HB := Aside0.mk (show 0 ≤ len ∧ len ≤ 65536 ∧ 0 ≤ off ∧ off < 4294967296 ∧ 0 ≤ n ∧ n < 4294967296 from ⟨hl0, hl1, ho0, ho1, hn0, hn1⟩)
  clear hC hc h1 h2 hl0 hl1 ho0 ho1 hn0 hn1 hE hc0
  go_enter Tryz.func11, Tryz.ntmps11
  go_wp2_with (first | (go_at_call 14; refine (open_calls k A cp l ino o1 0 _ HC.out HP.out H1.out).mono ?_; rintro e w1 ⟨g, A1, c1, rfl, hF, hg, hb⟩; have F1 := Aside0.mk hF; have B1 := Aside0.mk hb; clear hF hg hb) | ((with_reducible refine gate_dst (N := 14) rfl ?_); refine box_event ?hg (N := 14) ?hd (cs := #[.pointer none, .slice none 0 0]) (t := 61) ?hr ?_; (case hd => rfl); (case hg => rfl); (case hr => first | (go_simp; done) | (go_simp; rfl)); intro gb hgb w2 hx hb; have S2 := Aside0.mk (isB_new (Nat.le_of_eq hgb.symm) hx); have L2 := Aside0.mk hb; have F2 := Aside0.mk (F1.out.below hb); clear hx hb hgb))
  (try (refine wp_scope_post ?_; go_wp2_with (first | (go_at_call 14; refine (open_calls k A cp l ino o1 0 _ HC.out HP.out H1.out).mono ?_; rintro e w1 ⟨g, A1, c1, rfl, hF, hg, hb⟩; have F1 := Aside0.mk hF; have B1 := Aside0.mk hb; clear hF hg hb) | ((with_reducible refine gate_dst (N := 14) rfl ?_); refine box_event ?hg (N := 14) ?hd (cs := #[.pointer none, .slice none 0 0]) (t := 61) ?hr ?_; (case hd => rfl); (case hg => rfl); (case hr => first | (go_simp; done) | (go_simp; rfl)); intro gb hgb w2 hx hb; have S2 := Aside0.mk (isB_new (Nat.le_of_eq hgb.symm) hx); have L2 := Aside0.mk hb; have F2 := Aside0.mk (F1.out.below hb); clear hx hb hgb))))
  (try (go_step3; go_wp2_with (first | (go_at_call 14; refine (open_calls k A cp l ino o1 0 _ HC.out HP.out H1.out).mono ?_; rintro e w1 ⟨g, A1, c1, rfl, hF, hg, hb⟩; have F1 := Aside0.mk hF; have B1 := Aside0.mk hb; clear hF hg hb) | ((with_reducible refine gate_dst (N := 14) rfl ?_); refine box_event ?hg (N := 14) ?hd (cs := #[.pointer none, .slice none 0 0]) (t := 61) ?hr ?_; (case hd => rfl); (case hg => rfl); (case hr => first | (go_simp; done) | (go_simp; rfl)); intro gb hgb w2 hx hb; have S2 := Aside0.mk (isB_new (Nat.le_of_eq hgb.symm) hx); have L2 := Aside0.mk hb; have F2 := Aside0.mk (F1.out.below hb); clear hx hb hgb))))
  go_loopw [15, 17] (fun vp vc wr => ∃ (p c : Int) (m : Nat) (acc : List UInt8), vp = .int .i64 p ∧ vc = .int .i64 c ∧ Aside0 (Below w.heap.size w wr) ∧ Aside0 (FileAt wr g ino A1 c1 o1) ∧ Aside0 (Lib.IsBuilder 61 5 w1.heap.size gb (Lib.byteCells acc) wr) ∧ Aside0 (Below w1.heap.size w1 wr) ∧ Aside0 (m ≤ 600) ∧ Aside0 (readL k ino o1 E m p c acc = some r)) (fun _ vc _ => 65537 - (intOf vc).toNat)
  case atStart => exact ⟨off, c0, 600, [], rfl, rfl, ⟨below_step B1.out L2.out⟩, F2, S2, L2, ⟨Nat.le_refl _⟩, H2⟩
  case round =>
    obtain ⟨p, c, m, acc, rfl, rfl, HS, HF, HI, HL, HM, HR⟩ := hrel
    cases m with
    | zero => exact absurd HR.out (by simp [readL])
    | succ m =>
    have hR := HR.out
    rw [readL] at hR
    by_cases hp : p ≥ E
    · rw [if_pos hp] at hR
      obtain rfl := Option.some.inj hR
      have hpd : decide (p ≥ E) = true := decide_eq_true hp
      have hpd2 : decide (E ≤ p) = true := decide_eq_true hp
      clear hR hp HR
      go_wp2_with (go_at_call 25; refine (Tryz.Builder_String_any w1.heap.size gb acc _ HI.out HL.out.size).mono ?_; rintro e w9 ⟨rfl, hb⟩; have B9 := Aside0.mk hb; clear hb)
      go_ret2
      exact ⟨rfl, HS.out.trans (bel_le B9.out B1.out.size)⟩
    · rw [if_neg hp] at hR
      obtain ⟨b, hb, hR⟩ := Option.bind_eq_some_iff.mp hR
      split at hR
      case isFalse => cases hR
      case isTrue hc =>
      obtain ⟨hc0, hc1, hc2, hc128, hc3, hc4⟩ := hc
      have hpd : decide (p ≥ E) = false := decide_eq_false hp
      have hpd2 : decide (E ≤ p) = false := decide_eq_false hp
      have hbl : b.length = 128 := by
        unfold bytesF at hb
        obtain ⟨q, _, hq⟩ := Option.bind_eq_some_iff.mp hb
        rw [← Option.some.inj hq]
        exact padL_len _
      have hE1 := HE.out
      have x1 : IntKind.i64.wrap (c + 1) = c + 1 := by rw [IntKind.wrap_i64]; omega
      have x2 : IntKind.i64.wrap ((c + 1) * 128) = (c + 1) * 128 := by rw [IntKind.wrap_i64]; omega
      obtain ⟨u, hu⟩ : ∃ u, u = min E ((c + 1) * 128) := ⟨_, rfl⟩
      have x3 : (if (c + 1) * 128 < E then (c + 1) * 128 else E) = u := by
        rw [hu, Int.min_def]
        split <;> split <;> omega
      rw [← hu] at hR hc3
      have x4 : IntKind.i64.wrap (c * 128) = c * 128 := by rw [IntKind.wrap_i64]; omega
      obtain ⟨lo, hlo⟩ : ∃ lo, lo = p - c * 128 := ⟨_, rfl⟩
      obtain ⟨hi, hhi⟩ : ∃ hi, hi = u - c * 128 := ⟨_, rfl⟩
      have x5 : IntKind.i64.wrap (p - c * 128) = lo := by rw [IntKind.wrap_i64]; omega
      have x6 : IntKind.i64.wrap (u - c * 128) = hi := by rw [IntKind.wrap_i64]; omega
      rw [← hlo, ← hhi] at hR hc3
      rw [← hlo] at hc2 hc128
      have y0 : ((0 : Int) ≤ lo) = True := eq_true hc2
      have y1 : (lo ≤ hi) = True := eq_true hc3
      have y2 : (hi ≤ (128 : Int)) = True := eq_true (by omega)
      have y3 : ¬ 128 = lo.toNat := by omega
      have ql : ((b.drop lo.toNat).take (hi.toNat - lo.toNat)).length = hi.toNat - lo.toNat := by rw [List.length_take, List.length_drop]; omega
      have HQ := Aside0.mk ql
      have HBB := Aside0.mk hb
      have HBL := Aside0.mk hbl
      have HRR := Aside0.mk hR
      have HLH := Aside0.mk (show lo.toNat + (hi.toNat - lo.toNat) ≤ 128 by omega)
      have HA := Aside0.mk hc4
      have HCC := Aside0.mk (And.intro hc0 hc1)
      clear hR hb hp ql hbl hc0 hc1 hc2 hc128 hc3 hc4 hE1 hu hlo hhi HR
      go_wp2_with (first
        | (go_at_call 15; refine (bytes_calls k g ino c A1 c1 o1 b _ HF.out HBB.out).mono ?_; rintro e w5 ⟨gq, rfl, hgq, hbq, hb5⟩; have Q5 := Aside0.mk hbq; have B5 := Aside0.mk (below_step HS.out hb5); have L5 := Aside0.mk (below_step HL.out hb5); have I5 := Aside0.mk (isB_below HI.out hb5); have G5 := Aside0.mk (show gq ≠ gb ∧ gq < w5.heap.size from ⟨by have := HI.out; rcases this with h | h <;> (obtain ⟨_, _, h, _⟩ := h; have := blk_lt h; omega), blk_lt hbq⟩); clear hbq hb5 hgq)
        | (go_at_call 24; refine (writeN_calls w1.heap.size gb acc ((b.drop lo.toNat).take (hi.toNat - lo.toNat)) (some ⟨gq, lo.toNat, none⟩) (hi.toNat - lo.toNat) (128 - lo.toNat) _ HQ.out I5.out (by rw [HQ.out]; exact bb_reads Q5.out lo.toNat (hi.toNat - lo.toNat) (by rw [HBL.out]; exact HLH.out) (by have := HLH.out; omega)) (fun ad e => by injection e with e; subst e; exact G5.out) (by rw [HQ.out]; have := HA.out; have := HLH.out; omega) L5.out.size).mono ?_; rintro e w6 ⟨rfl, hI6, hb6⟩; have I6 := Aside0.mk hI6; have L6 := Aside0.mk (L5.out.trans hb6); have B6 := Aside0.mk (B5.out.trans (bel_le hb6 B1.out.size)); clear hI6 hb6))
      have hcc := HCC.out
      have hm := HM.out
      go_roundw
      case rel => exact ⟨u, c + 1, m, _, rfl, rfl, B6, ⟨F1.out.below L6.out⟩, ⟨.inr I6.out⟩, L6, ⟨by omega⟩, HRR⟩
      case measure =>
        simp [intOf]
        omega
set_option maxRecDepth 100000 in
set_option maxHeartbeats 3200000 in
theorem read_bad_calls (k : Nat) (A : Option Addr) (cp : Nat) (l : List IT) (ino len off n : Int) (o1 : List IT) (o2 : Int) (w : World) (hC : Kd.C k54 w A l.length l) (hc : l.length ≤ cp)
    (h1 : openF k l ino = some (o1, o2)) (h2 : ¬ rck o2 len = 0) :
    Calls Tryz.prog 11 #[.slice A l.length cp, .int .u32 ino, .int .u32 len, .int .u32 off, .int .u32 n] w fun e w' => e = .returned (.tuple #[.string ⟨#[]⟩, .int .i64 (rck o2 len)]) ∧ Below w.heap.size w w' := by
  have HC := Aside0.mk hC
  have HP := Aside0.mk hc
  by_cases c0 : o2 = 0
  · subst c0
    have c1 : len > 65536 := by
      unfold rck at h2
      rcases Decidable.em (len > 65536) with h | h
      · exact h
      · exact absurd (if_neg (fun h' => h h'.2)) h2
    have hk : rck 0 len = 1 := if_pos ⟨rfl, c1⟩
    rw [hk]
    have k1 : decide (len > 65536) = true := decide_eq_true c1
    have H1 := Aside0.mk h1
    clear hC hc h1 h2 c1 hk
    go_enter Tryz.func11, Tryz.ntmps11
    go_wp2_with (go_at_call 14; refine (open_calls k A cp l ino o1 0 _ HC.out HP.out H1.out).mono ?_; rintro e w1 ⟨g, A1, c1, rfl, hF, hg, hb⟩; have B1 := Aside0.mk hb; clear hF hg hb)
    (try (refine wp_scope_post ?_; go_wp2_with (go_at_call 14; refine (open_calls k A cp l ino o1 0 _ HC.out HP.out H1.out).mono ?_; rintro e w1 ⟨g, A1, c1, rfl, hF, hg, hb⟩; have B1 := Aside0.mk hb; clear hF hg hb)))
    (try (go_step3; go_wp2_with (go_at_call 14; refine (open_calls k A cp l ino o1 0 _ HC.out HP.out H1.out).mono ?_; rintro e w1 ⟨g, A1, c1, rfl, hF, hg, hb⟩; have B1 := Aside0.mk hb; clear hF hg hb)))
    go_ret2
    exact ⟨rfl, B1.out⟩
  · have hk : rck o2 len = o2 := if_neg (fun h => c0 h.1)
    rw [hk]
    have k1 : (o2 == 0) = false := beq_eq_false_iff_ne.2 c0
    have k2 : (o2 != 0) = true := bne_iff_ne.2 c0
    have H1 := Aside0.mk h1
    clear hC hc h1 h2 c0 hk
    go_enter Tryz.func11, Tryz.ntmps11
    go_wp2_with (go_at_call 14; refine (open_calls k A cp l ino o1 o2 _ HC.out HP.out H1.out).mono ?_; rintro e w1 ⟨g, A1, c1, rfl, hF, hg, hb⟩; have B1 := Aside0.mk hb; clear hF hg hb)
    (try (refine wp_scope_post ?_; go_wp2_with (go_at_call 14; refine (open_calls k A cp l ino o1 o2 _ HC.out HP.out H1.out).mono ?_; rintro e w1 ⟨g, A1, c1, rfl, hF, hg, hb⟩; have B1 := Aside0.mk hb; clear hF hg hb)))
    (try (go_step3; go_wp2_with (go_at_call 14; refine (open_calls k A cp l ino o1 o2 _ HC.out HP.out H1.out).mono ?_; rintro e w1 ⟨g, A1, c1, rfl, hF, hg, hb⟩; have B1 := Aside0.mk hb; clear hF hg hb)))
    go_ret2
    exact ⟨rfl, B1.out⟩
theorem data_Read.calls (k : Nat) (A0 : Option Addr) (c0 : Nat) (l0 : List S54) (a1 a2 a3 a4 : Int) (r1 : ByteArray) (r2 : Int) (w : World) (hr0 : Kd.C k54 w A0 l0.length l0) (hc0 : l0.length ≤ c0) (h : data_Read.f k l0 a1 a2 a3 a4 = some (r1, r2)) :
    Calls Tryz.prog 11 #[.slice A0 l0.length c0, .int .u32 a1, .int .u32 a2, .int .u32 a3, .int .u32 a4] w fun e w' => e = .returned (.tuple #[.string r1, .int .i64 r2]) ∧ Below w.heap.size w w' := by
  unfold data_Read.f at h
  split at h
  case isFalse => cases h
  case isTrue hr =>
  obtain ⟨⟨o1, o2⟩, h1, h⟩ := Option.bind_eq_some_iff.mp h
  by_cases hk : rck o2 a2 = 0
  · rw [if_pos hk] at h
    obtain ⟨r, h2, h⟩ := Option.bind_eq_some_iff.mp h
    have h3 := Option.some.inj h
    simp only [Prod.mk.injEq] at h3
    obtain ⟨rfl, rfl⟩ := h3
    obtain ⟨rfl, hl⟩ : o2 = 0 ∧ a2 ≤ 65536 := by
      unfold rck at hk
      split at hk
      · omega
      · omega
    exact read_ok_calls k A0 c0 l0 a1 a2 a3 a4 o1 r w hr0 hc0 hr.1 hl hr.2.1 hr.2.2.1 hr.2.2.2.1 hr.2.2.2.2 h1 h2
  · rw [if_neg hk] at h
    have h3 := Option.some.inj h
    simp only [Prod.mk.injEq] at h3
    obtain ⟨rfl, rfl⟩ := h3
    exact read_bad_calls k A0 c0 l0 a1 a2 a3 a4 o1 o2 w hr0 hc0 h1 hk
end Go.Proofs.YtnngbhdofgodiaaGreatDoor.Z
end

section
/- data.Write. -/
namespace Go.Proofs.YtnngbhdofgodiaaGreatDoor.Z
open Go.RowKit Go.Proofs.YtnngbhdofgodiaaGreatDoorW.PrintWords Go.Proofs.YtnngbhdofgodiaaGreatDoorW.PrintLast Go.Proofs.YtnngbhdofgodiaaGreatDoorW.PrintMore
set_option linter.unusedVariables false
set_option linter.unusedSimpArgs false
abbrev CH := S43
theorem info_Change : (Tryz.prog.info? 43).map (fun i => (i.zero, i.size, i.bytes)) = some (some (.agg #[.string ⟨#[]⟩, .bool false, .string ⟨#[]⟩]), 3, 40) := by kernel_rfl
/-- Bytes to a place on, chunk by chunk. -/
def writeL (k : Nat) (ino : Int) (l : List IT) : Nat → Int → ByteArray → List CH → Option (List CH)
  | 0, _, _, _ => none
  | n + 1, p, s, acc => if s.toList = [] then some acc else (bytesF k ino l (p / 128)).bind fun b =>
    if 0 ≤ p ∧ p < 65536 ∧ s.size ≤ 65536 then (keepF k ino l (p / 128) ⟨(over b s.data.toList (p % 128).toNat (128 - (p % 128).toNat)).toArray⟩).bind fun cs =>
      if acc.length + cs.length ≤ 1048576 then writeL k ino l n (p + (min s.size (128 - (p % 128).toNat) : Nat)) (s.extract (min s.size (128 - (p % 128).toNat)) s.size) (acc ++ cs) else none
    else none
theorem writeL.mono (ino : Int) (l : List IT) : ∀ (n : Nat) (p : Int) (s : ByteArray) (acc : List CH) (k : Nat), LeO (writeL k ino l n p s acc) (writeL (k + 1) ino l n p s acc)
  | 0, p, s, acc, k => LeO.refl _
  | n + 1, p, s, acc, k => by
    unfold writeL
    exact LeO.ite (LeO.refl _) (LeO.bind (bytesF.mono _ _ _ _) (fun b => LeO.ite (LeO.bind (keepF.mono _ _ _ _ _) (fun cs => LeO.ite (writeL.mono ino l n _ _ _ _) (LeO.refl _))) (LeO.refl _)))
theorem bb_conv {W : World} {g : Nat} {l : List UInt8} (h : W.heap[g]? = some (bb l)) (n c : Nat) (hn : l.length = n) :
    (convert 40 9 (.slice (some ⟨g, 0, none⟩) n c)).run Tryz.prog W = .ok (.string ⟨l.toArray⟩) W := by
  subst hn
  refine run_convert_bytes_back W _ _ 5 ⟨g, 0, none⟩ c l Tryz.underlying40 Tryz.underlying5 Tryz.underlying9 (fun j hj => ?_)
  have hadd : (⟨g, 0, none⟩ : Addr).add j = ⟨g, j, none⟩ := by
    unfold Addr.add
    split <;> simp_all
  rw [hadd, blk_cell h, List.getElem?_toArray]
  unfold Lib.byteCells
  rw [List.getElem?_map, List.getElem?_eq_getElem hj]
  rfl
/-- A row of the call's own, where another block is told anew. -/
theorem own_setRow {w : World} {base g t : Nat} {v : Value} {xs : List CH} {cs cs' : Array Value} (h : k43.R 43 w base (fun _ => True) v xs) (hb : w.heap[g]? = some (.cells cs t (0, 0))) (ht : 43 ≠ t) : k43.R 43 (w.setRow g cs') base (fun _ => True) v xs := by
  have h1 := Kd.R_types h hb (by
    intro q hq
    rw [show k43.E = [] from rfl] at hq
    simp at hq
    subst hq
    exact ht)
  exact Kd.R_mono (Kd.R_step h1 (fun k hk _ => by
    simp only [World.setRow, Array.getElem?_modify]
    rw [if_neg (fun e => hk.2 e.symm)])) (fun _ _ => trivial)
def wk (why off : Int) (n : Nat) : Int := if why = 0 ∧ off + n > 65536 then 1 else why
def data_Write.f (k : Nat) (l : List IT) (ino off : Int) (s : ByteArray) : Option (List CH × Int) := if 0 ≤ off ∧ off < 4294967296 ∧ s.size ≤ 9223372036854775807 then ((openF k l ino).bind fun o => if wk o.2 off s.size = 0 then (writeL k ino o.1 70000 off s []).bind fun r => some (r, 0) else some ([], wk o.2 off s.size)) else none
theorem data_Write.mono : ∀ (l : List IT) (ino off : Int) (s : ByteArray) (k : Nat), LeO (data_Write.f k l ino off s) (data_Write.f (k + 1) l ino off s) := fun l ino off s k => by
  unfold data_Write.f
  exact LeO.ite (LeO.bind (openF.mono _ _ _) (fun _ => LeO.ite (LeO.bind (writeL.mono _ _ _ _ _ _ _) (fun _ => LeO.refl _)) (LeO.refl _))) (LeO.none _)
set_option maxRecDepth 100000 in
set_option maxHeartbeats 6400000 in
theorem write_ok_calls (k : Nat) (A : Option Addr) (cp : Nat) (l : List IT) (ino off : Int) (s : ByteArray) (o1 : List IT) (r : List CH) (w : World) (hC : Kd.C k54 w A l.length l) (hc : l.length ≤ cp) (ho0 : 0 ≤ off) (hs : off + s.size ≤ 65536)
    (h1 : openF k l ino = some (o1, 0)) (h2 : writeL k ino o1 70000 off s [] = some r) :
    Calls Tryz.prog 9 #[.slice A l.length cp, .int .u32 ino, .int .u32 off, .string s] w fun e w' => ∃ v, e = .returned (.tuple #[v, .int .i64 0]) ∧ k43.R 43 w' w.heap.size (fun _ => True) v r ∧ Below w.heap.size w w' := by
  have HC := Aside0.mk hC
  have HP := Aside0.mk hc
  have H1 := Aside0.mk h1
  have H2 := Aside0.mk h2
  have e1 : IntKind.u64.wrap off = off := IntWalk.u64_in _ ⟨by omega, by omega⟩
  have e2 : IntKind.u64.wrap (s.size : Int) = s.size := IntWalk.u64_in _ ⟨by omega, by omega⟩
  have e3 : IntKind.u64.wrap (off + s.size) = off + s.size := IntWalk.u64_in _ ⟨by omega, by omega⟩
  have e4 : decide (off + s.size > 65536) = false := decide_eq_false (by omega)
  have e5 : IntKind.i64.wrap off = off := by rw [IntKind.wrap_i64]; omega
  have HO := Aside0.mk (And.intro ho0 hs)
  clear hC hc h1 h2 ho0 hs
  go_enter Tryz.func9, Tryz.ntmps9
  go_wp2_with (go_at_call 14; refine (open_calls k A cp l ino o1 0 _ HC.out HP.out H1.out).mono ?_; rintro e w1 ⟨g, A1, c1, rfl, hF, hg, hb⟩; have F1 := Aside0.mk hF; have B1 := Aside0.mk hb; clear hF hg hb)
  go_loopw [3, 12, 13] (fun vs vo vp wr => ∃ (p : Int) (m : Nat) (q : ByteArray) (acc : List CH), vs = .string q ∧ vp = .int .i64 p ∧ Aside0 (k43.R 43 wr w1.heap.size (fun _ => True) vo acc) ∧ Aside0 (Below w1.heap.size w1 wr) ∧ Aside0 (writeL k ino o1 m p q acc = some r)) (fun vs _ _ _ => match vs with | .string b => b.size | _ => 0)
  case atStart => exact ⟨off, 70000, s, [], rfl, rfl, ⟨Kd.R_nil _ _ _ _ _⟩, ⟨Below.refl _ _⟩, H2⟩
  case round =>
    obtain ⟨p, m, q, acc, rfl, rfl, HA, HL, HR⟩ := hrel
    cases m with
    | zero => exact absurd HR.out (by simp [writeL])
    | succ m =>
    have hR := HR.out
    rw [writeL] at hR
    by_cases hq : q.toList = []
    · rw [if_pos hq] at hR
      obtain rfl := Option.some.inj hR
      have hqe : q.toList.isEmpty = true := by rw [hq]; rfl
      clear hR hq HR
      go_wp2
      go_ret2
      exact ⟨_, rfl, Kd.R_lower HA.out B1.out.size, B1.out.trans (bel_le HL.out B1.out.size)⟩
    · rw [if_neg hq] at hR
      obtain ⟨A0, c0, hv⟩ := Kd.R_slice HA.out
      subst hv
      have hqe : q.toList.isEmpty = false := by
        cases h : q.toList with
        | nil => exact absurd h hq
        | cons _ _ => rfl
      obtain ⟨b, hb, hR⟩ := Option.bind_eq_some_iff.mp hR
      split at hR
      case isFalse => cases hR
      case isTrue hc =>
      obtain ⟨hc0, hc1, hc2⟩ := hc
      obtain ⟨cs, hcs, hR⟩ := Option.bind_eq_some_iff.mp hR
      split at hR
      case isFalse => cases hR
      case isTrue hlen =>
      have hbl : b.length = 128 := by
        unfold bytesF at hb
        obtain ⟨x, _, hx⟩ := Option.bind_eq_some_iff.mp hb
        rw [← Option.some.inj hx]
        exact padL_len _
      obtain ⟨c, hc⟩ : ∃ c, c = p / 128 := ⟨_, rfl⟩
      obtain ⟨lo, hlo⟩ : ∃ lo, lo = p % 128 := ⟨_, rfl⟩
      obtain ⟨mm, hmm⟩ : ∃ mm, mm = min q.size (128 - lo.toNat) := ⟨_, rfl⟩
      have x1 : Int.tdiv p 128 = c := by rw [hc]; exact Int.tdiv_eq_ediv_of_nonneg hc0
      have x2 : IntKind.i64.wrap c = c := by rw [IntKind.wrap_i64]; omega
      have x3 : IntKind.i64.wrap (c * 128) = c * 128 := by rw [IntKind.wrap_i64]; omega
      have x4 : IntKind.i64.wrap (p - c * 128) = lo := by rw [IntKind.wrap_i64]; omega
      have x5 : IntKind.i64.wrap (p + (mm : Int)) = p + (mm : Int) := by rw [IntKind.wrap_i64]; omega
      have y0 : ((0 : Int) ≤ lo) = True := eq_true (by omega)
      have y1 : (lo ≤ (128 : Int)) = True := eq_true (by omega)
      have y2 : ¬ 128 = lo.toNat := by omega
      have z0 : ((0 : Int) ≤ (mm : Int)) = True := eq_true (by omega)
      have z1 : ((mm : Int) ≤ (q.size : Int)) = True := eq_true (by omega)
      rw [← hc] at hb hcs
      rw [← hlo] at hcs hR
      rw [← hmm] at hR
      have hol : (over b q.data.toList lo.toNat (128 - lo.toNat)).length = 128 := by rw [over_len _ _ _ _ (by rw [hbl]; omega), hbl]
      have HOL := Aside0.mk hol
      have HBB := Aside0.mk hb
      have HBL := Aside0.mk hbl
      have HCS := Aside0.mk hcs
      have HRR := Aside0.mk hR
      have HMM := Aside0.mk hmm
      have HLN := Aside0.mk hlen
      have HLO := Aside0.mk (show lo.toNat < 128 by omega)
      have HQ := Aside0.mk (show 0 < q.size by
        rcases Nat.eq_zero_or_pos q.size with h | h
        · exfalso
          apply hq
          rw [ByteArray.toList_eq]
          have : q.data.toList.length = 0 := by rw [Array.length_toList]; exact h
          exact List.length_eq_zero_iff.1 this
        · exact h)
      clear hR hb hcs hq hbl hc0 hc1 hc2 hlen hc hlo hmm HR hol
      go_wp2_with (first
        | (go_at_call 15; refine (bytes_calls k g ino c A1 c1 o1 b _ (F1.out.below HL.out) HBB.out).mono ?_; rintro e w5 ⟨gq, rfl, hgq, hbq, hb5⟩; have Q5 := Aside0.mk hbq; have A5 := Aside0.mk (Kd.R_below HA.out hb5); have L5 := Aside0.mk (below_step HL.out hb5); have G5 := Aside0.mk (show w1.heap.size ≤ gq from Nat.le_trans HL.out.size hgq); clear hbq hb5 hgq)
        | (refine copy_event rfl (.tmp 51) (.tmp 52) 40 9 5 rfl Tryz.underlying40 size_u8 gq lo.toNat (128 - lo.toNat) (128 - lo.toNat) rfl q rfl _ 5 Q5.out (by have := HBL.out; have := HLO.out; simp [Lib.byteCells]; omega) ?_; rw [← HMM.out]; generalize hw6 : World.setRow w5 gq _ = w6; have Q6 := Aside0.mk (show w6.heap[gq]? = some (bb (over b q.data.toList lo.toNat (128 - lo.toNat))) by rw [← hw6, HMM.out]; exact bb_copy Q5.out q lo.toNat (128 - lo.toNat)); have A6 := Aside0.mk (show k43.R 43 w6 w1.heap.size (fun _ => True) (.slice A0 acc.length c0) acc by rw [← hw6]; exact own_setRow A5.out Q5.out (by decide)); have L6 := Aside0.mk (show Below w1.heap.size w1 w6 by rw [← hw6]; exact below_setRow L5.out G5.out _); have cv := bb_conv Q6.out 128 128 HOL.out; clear hw6)
        | (go_at_call 16; refine (keep_calls k g ino c _ A1 c1 o1 cs _ (F1.out.below L6.out) HCS.out).mono ?_; rintro e w7 ⟨v7, rfl, ho7, hb7⟩; have A7 := Aside0.mk (Kd.R_below A6.out hb7); have R7 := Aside0.mk ho7; have L7 := Aside0.mk (below_step L6.out hb7); obtain ⟨A8, c8, rfl⟩ := Kd.R_slice ho7; clear ho7 hb7 cv)
        | (at_builtin; refine Kd.R_append_rows k43 (w0 := w1) w1.heap.size rfl (.tmp 54) (.tmp 59) 25 43 (.agg #[.string ⟨#[]⟩, .bool false, .string ⟨#[]⟩]) 40 rfl Tryz.underlying25 info_Change rfl (by decide) (by omega) (.slice A0 acc.length c0) acc cs _ _ _ (fun _ => True) (fun _ => False) rfl rfl ?aO ?aR (fun _ _ h => h) (fun _ h => h.elim) ?aF ?aB ?aS ?aL ?_; (case aR => exact (Kd.R_reads' R7.out).2.2); (case aB => exact L7.out); (case aF => exact (fun _ _ => trivial)); (case aO => exact A7.out); (case aS => exact L7.out.size); (case aL => have := HLN.out; omega); intro v9 w9 ho hb hg hat; have A9 := Aside0.mk ho; have L9 := Aside0.mk hb; clear ho hb hg hat))
      refine wp_region_still_lit (by kernel_rfl) (by kernel_rfl) ?_
      repeat still_step
      refine wpStill_nil ?_
      change Exit.inBlock _ _ _ _ w9.drew
      go_wp2
      have hmm := HMM.out
      have hq := HQ.out
      have hlo := HLO.out
      go_roundw
      case rel => exact ⟨p + (mm : Int), m, _, acc ++ cs, rfl, rfl, ⟨Kd.R_drew A9.out⟩, ⟨below_drew1 L9.out⟩, HRR⟩
      case measure =>
        show (q.extract mm q.size).size < q.size
        rw [ByteArray.size_extract]
        omega
set_option maxRecDepth 100000 in
set_option maxHeartbeats 3200000 in
theorem write_bad_calls (k : Nat) (A : Option Addr) (cp : Nat) (l : List IT) (ino off : Int) (s : ByteArray) (o1 : List IT) (o2 : Int) (w : World) (hC : Kd.C k54 w A l.length l) (hc : l.length ≤ cp) (ho0 : 0 ≤ off) (ho1 : off < 4294967296) (hs : s.size ≤ 9223372036854775807)
    (h1 : openF k l ino = some (o1, o2)) (h2 : ¬ wk o2 off s.size = 0) :
    Calls Tryz.prog 9 #[.slice A l.length cp, .int .u32 ino, .int .u32 off, .string s] w fun e w' => e = .returned (.tuple #[.slice none 0 0, .int .i64 (wk o2 off s.size)]) ∧ Below w.heap.size w w' := by
  have HC := Aside0.mk hC
  have HP := Aside0.mk hc
  by_cases c0 : o2 = 0
  · subst c0
    have c1 : off + s.size > 65536 := by
      unfold wk at h2
      rcases Decidable.em (off + s.size > 65536) with h | h
      · exact h
      · exact absurd (if_neg (fun h' => h h'.2)) h2
    have hk : wk 0 off s.size = 1 := if_pos ⟨rfl, c1⟩
    rw [hk]
    have e1 : IntKind.u64.wrap off = off := IntWalk.u64_in _ ⟨by omega, by omega⟩
    have e2 : IntKind.u64.wrap (s.size : Int) = s.size := IntWalk.u64_in _ ⟨by omega, by omega⟩
    have e3 : IntKind.u64.wrap (off + s.size) = off + s.size := IntWalk.u64_in _ ⟨by omega, by omega⟩
    have k1 : decide (off + s.size > 65536) = true := decide_eq_true c1
    have H1 := Aside0.mk h1
    clear hC hc h1 h2 c1 hk ho0 ho1 hs
    go_enter Tryz.func9, Tryz.ntmps9
    go_wp2_with (go_at_call 14; refine (open_calls k A cp l ino o1 0 _ HC.out HP.out H1.out).mono ?_; rintro e w1 ⟨g, A1, c1, rfl, hF, hg, hb⟩; have B1 := Aside0.mk hb; clear hF hg hb)
    go_ret2
    exact ⟨rfl, B1.out⟩
  · have hk : wk o2 off s.size = o2 := if_neg (fun h => c0 h.1)
    rw [hk]
    have k1 : (o2 == 0) = false := beq_eq_false_iff_ne.2 c0
    have k2 : (o2 != 0) = true := bne_iff_ne.2 c0
    have H1 := Aside0.mk h1
    clear hC hc h1 h2 c0 hk ho0 ho1 hs
    go_enter Tryz.func9, Tryz.ntmps9
    go_wp2_with (go_at_call 14; refine (open_calls k A cp l ino o1 o2 _ HC.out HP.out H1.out).mono ?_; rintro e w1 ⟨g, A1, c1, rfl, hF, hg, hb⟩; have B1 := Aside0.mk hb; clear hF hg hb)
    go_ret2
    exact ⟨rfl, B1.out⟩
theorem data_Write.calls (k : Nat) (A0 : Option Addr) (c0 : Nat) (l0 : List S54) (a1 a2 : Int) (a3 : ByteArray) (r1 : List S43) (r2 : Int) (w : World) (hr0 : Kd.C k54 w A0 l0.length l0) (hc0 : l0.length ≤ c0) (h : data_Write.f k l0 a1 a2 a3 = some (r1, r2)) :
    Calls Tryz.prog 9 #[.slice A0 l0.length c0, .int .u32 a1, .int .u32 a2, .string a3] w fun e w' => ∃ v0_ : Value, e = .returned (.tuple #[v0_, .int .i64 r2]) ∧ Kd.R k43 43 w' w.heap.size (fun _ => True) v0_ r1 ∧ Below w.heap.size w w' := by
  unfold data_Write.f at h
  split at h
  case isFalse => cases h
  case isTrue hr =>
  obtain ⟨⟨o1, o2⟩, h1, h⟩ := Option.bind_eq_some_iff.mp h
  by_cases hk : wk o2 a2 a3.size = 0
  · rw [if_pos hk] at h
    obtain ⟨r, h2, h⟩ := Option.bind_eq_some_iff.mp h
    have h3 := Option.some.inj h
    simp only [Prod.mk.injEq] at h3
    obtain ⟨rfl, rfl⟩ := h3
    obtain ⟨rfl, hl⟩ : o2 = 0 ∧ a2 + a3.size ≤ 65536 := by
      unfold wk at hk
      split at hk
      · omega
      · omega
    exact write_ok_calls k A0 c0 l0 a1 a2 a3 o1 r w hr0 hc0 hr.1 hl h1 h2
  · rw [if_neg hk] at h
    have h3 := Option.some.inj h
    simp only [Prod.mk.injEq] at h3
    obtain ⟨rfl, rfl⟩ := h3
    exact (write_bad_calls k A0 c0 l0 a1 a2 a3 o1 o2 w hr0 hc0 hr.1 hr.2.1 hr.2.2 h1 hk).mono (fun e w' he => ⟨_, he.1, Kd.R_nil _ _ _ _ _, he.2⟩)
end Go.Proofs.YtnngbhdofgodiaaGreatDoor.Z
end

section
/- data.Cut. -/
namespace Go.Proofs.YtnngbhdofgodiaaGreatDoor.Z
open Go.RowKit Go.Proofs.YtnngbhdofgodiaaGreatDoorW.PrintWords Go.Proofs.YtnngbhdofgodiaaGreatDoorW.PrintLast Go.Proofs.YtnngbhdofgodiaaGreatDoorW.PrintMore
set_option linter.unusedVariables false
set_option linter.unusedSimpArgs false
theorem own_far {w : World} {base g t : Nat} {v : Value} {xs : List CH} {cs : Array Value} (h : k43.R 43 w base (fun _ => True) v xs) (hb : w.heap[g]? = some (.cells cs t (0, 0))) (ht : 43 ≠ t) (j : Nat) (u : Value) : k43.R 43 (w.setCell ⟨g, j, none⟩ u) base (fun _ => True) v xs :=
  Kd.R_mono (Kd.R_far (p := ⟨g, j, none⟩) (Kd.R_types h hb (by
    intro q hq
    rw [show k43.E = [] from rfl] at hq
    simp at hq
    subst hq
    exact ht)) (fun _ hk => hk.2) u) (fun _ _ => trivial)
/-- What is cut of the chunks, one by one. -/
def cutL (k : Nat) (ino : Int) (l : List IT) (len : Int) : List IT → List CH → Option (List CH)
  | [], acc => some acc
  | x :: xs, acc => (inode_Parse.f k x.f0).bind fun q => if 0 ≤ q.2.2.2.1 ∧ q.2.2.2.1 < 4294967296 ∧ acc.length ≤ 4194304 ∧ x.f1.size ≤ 65536 then
      (if len - q.2.2.2.1 * 128 ≤ 0 then cutL k ino l len xs (acc ++ [⟨x.f0, false, ⟨#[]⟩⟩])
       else if len - q.2.2.2.1 * 128 < x.f1.size then (keepF k ino l q.2.2.2.1 (x.f1.extract 0 (len - q.2.2.2.1 * 128).toNat)).bind fun cs => if cs.length ≤ 4194304 then cutL k ino l len xs (acc ++ cs) else none
       else cutL k ino l len xs acc) else none
theorem cutL.mono (ino : Int) (l : List IT) (len : Int) : ∀ (xs : List IT) (acc : List CH) (k : Nat), LeO (cutL k ino l len xs acc) (cutL (k + 1) ino l len xs acc)
  | [], acc, k => LeO.refl _
  | x :: xs, acc, k => by
    unfold cutL
    exact LeO.bind (inode_Parse.mono _ _) (fun q => LeO.ite (LeO.ite (cutL.mono ino l len xs _ _) (LeO.ite (LeO.bind (keepF.mono _ _ _ _ _) (fun cs => LeO.ite (cutL.mono ino l len xs _ _) (LeO.refl _))) (cutL.mono ino l len xs _ _))) (LeO.refl _))
def ck' (why len : Int) : Int := if why = 0 ∧ len > 65536 then 1 else why
def data_Cut.f (k : Nat) (l : List IT) (ino len : Int) : Option (List CH × Int) := if 0 ≤ len ∧ len < 4294967296 then ((openF k l ino).bind fun o => if ck' o.2 len = 0 then (cutL k ino o.1 len o.1 []).bind fun r => some (r, 0) else some ([], ck' o.2 len)) else none
theorem data_Cut.mono : ∀ (l : List IT) (ino len : Int) (k : Nat), LeO (data_Cut.f k l ino len) (data_Cut.f (k + 1) l ino len) := fun l ino len k => by
  unfold data_Cut.f
  exact LeO.ite (LeO.bind (openF.mono _ _ _) (fun _ => LeO.ite (LeO.bind (cutL.mono _ _ _ _ _ _) (fun _ => LeO.refl _)) (LeO.refl _))) (LeO.none _)
set_option maxRecDepth 100000 in
set_option maxHeartbeats 6400000 in
theorem cut_ok_calls (k : Nat) (A : Option Addr) (cp : Nat) (l : List IT) (ino len : Int) (o1 : List IT) (r : List CH) (w : World) (hC : Kd.C k54 w A l.length l) (hc : l.length ≤ cp) (hl0 : 0 ≤ len) (hl1 : len ≤ 65536)
    (h1 : openF k l ino = some (o1, 0)) (h2 : cutL k ino o1 len o1 [] = some r) :
    Calls Tryz.prog 12 #[.slice A l.length cp, .int .u32 ino, .int .u32 len] w fun e w' => ∃ v, e = .returned (.tuple #[v, .int .i64 0]) ∧ k43.R 43 w' w.heap.size (fun _ => True) v r ∧ Below w.heap.size w w' := by
  have HC := Aside0.mk hC
  have HP := Aside0.mk hc
  have H1 := Aside0.mk h1
  have H2 := Aside0.mk h2
  have e1 : decide (len > 65536) = false := decide_eq_false (by omega)
  have e2 : IntKind.i64.wrap len = len := by rw [IntKind.wrap_i64]; omega
  have HO := Aside0.mk (And.intro hl0 hl1)
  clear hC hc h1 h2 hl0 hl1
  go_enter Tryz.func12, Tryz.ntmps12
  go_wp2_with (go_at_call 14; refine (open_calls k A cp l ino o1 0 _ HC.out HP.out H1.out).mono ?_; rintro e w1 ⟨g, A1, c1, rfl, hF, hg, hb⟩; have F1 := Aside0.mk hF; have B1 := Aside0.mk hb; have t0_ : w1.cell? ⟨g, 1, none⟩ = some (.slice A1 o1.length c1) := (blk_cell hF.1 1).trans rfl; clear hF hg hb)
  have HN := Aside0.mk (Kd.C_max F1.out.2.1)
  clear t0_
  go_loopw [10, 36] (fun vo vi wr => ∃ (i : Int) (acc : List CH), vi = .int .i64 i ∧ Aside0 (0 ≤ i ∧ i ≤ o1.length) ∧ Aside0 (k43.R 43 wr w1.heap.size (fun _ => True) vo acc) ∧ Aside0 (Below w1.heap.size w1 wr) ∧ Aside0 (cutL k ino o1 len (o1.drop i.toNat) acc = some r)) (fun _ vi _ => o1.length - (intOf vi).toNat)
  case atStart => exact ⟨0, [], rfl, ⟨by omega⟩, ⟨Kd.R_nil _ _ _ _ _⟩, ⟨Below.refl _ _⟩, H2⟩
  case round =>
    obtain ⟨i, acc, rfl, HI, HA, HL, HR⟩ := hrel
    obtain ⟨hi0, hi1⟩ := HI.out
    have hn := HN.out
    by_cases hlt : i < (o1.length : Int)
    · obtain ⟨A0, c0, hv⟩ := Kd.R_slice HA.out
      subst hv
      obtain ⟨x, hx⟩ : ∃ x, x = rd_T54 o1 i := ⟨_, rfl⟩
      have hdr : o1.drop i.toNat = x :: o1.drop (i + 1).toNat := by
        have hl : i.toNat < o1.length := by omega
        rw [List.drop_eq_getElem_cons hl, hx, show (i + 1).toNat = i.toNat + 1 by omega]
        congr 1
        unfold rd_T54
        rw [List.getD_eq_getElem?_getD, List.getElem?_eq_getElem hl]
        rfl
      have hR := HR.out
      rw [hdr, cutL] at hR
      obtain ⟨⟨q1, q2, q3, q4, q5⟩, hpa, hR⟩ := Option.bind_eq_some_iff.mp hR
      simp only at hR
      split at hR
      case isFalse => cases hR
      case isTrue hcd =>
      obtain ⟨hc0, hc1, hc2, hc3⟩ := hcd
      have hO := HO.out
      have hlt2 : decide (i < (o1.length : Int)) = true := decide_eq_true hlt
      have p0 := eq_true hi0
      have p1 := eq_true hlt
      obtain ⟨ad, hAd, k0, k1⟩ := at_T54 (F1.out.below HL.out).2.1 i hi0 hlt
      subst hAd
      rw [← hx] at k0 k1
      have ew : wrap64 (i + 1) = i + 1 := by unfold wrap64; omega
      have x1 : IntKind.i64.wrap q4 = q4 := by rw [IntKind.wrap_i64]; omega
      have x2 : IntKind.i64.wrap (q4 * 128) = q4 * 128 := by rw [IntKind.wrap_i64]; omega
      obtain ⟨lf, hlf⟩ : ∃ lf, lf = len - q4 * 128 := ⟨_, rfl⟩
      have x3 : IntKind.i64.wrap (len - q4 * 128) = lf := by rw [IntKind.wrap_i64]; omega
      rw [← hlf] at hR
      have EW := Aside0.mk ew
      have LI := Aside0.mk hlt
      have HPA := Aside0.mk hpa
      have HLN := Aside0.mk hc2
      have HX1 := Aside0.mk hc3
      clear hi0 hi1 hn hlt hdr hpa hc0 hc1 hc2 hO ew hlf hx HR
      by_cases hle : lf ≤ 0
      · rw [if_pos hle] at hR
        have z0 : decide (lf ≤ 0) = true := decide_eq_true hle
        have HRR := Aside0.mk hR
        clear hR hle hc3
        go_wp2_with (first
          | ((with_reducible refine gate_dst (N := 12) rfl ?_); refine box_event ?hg (N := 12) ?hd (cs := #[.string ⟨#[]⟩, .string ⟨#[]⟩]) (t := 54) ?hr ?_; (case hd => rfl); (case hg => rfl); (case hr => first | (go_simp; done) | (go_simp; rfl)); intro gx hgx w3 hx hb; have V3 := Aside0.mk hx; have GX := Aside0.mk (show w1.heap.size ≤ gx by have := HL.out.size; omega); have L3 := Aside0.mk (below_step HL.out hb); have A3 := Aside0.mk (Kd.R_below HA.out hb); have q0_ : w3.cell? ⟨gx, 0, none⟩ = some (.string ⟨#[]⟩) := (blk_cell V3.out 0).trans rfl; have f0_ : w3.frozen? ⟨gx, 0, none⟩ = false := blk_frozen V3.out 0; have q1_ : w3.cell? ⟨gx, 1, none⟩ = some (.string ⟨#[]⟩) := (blk_cell V3.out 1).trans rfl; have f1_ : w3.frozen? ⟨gx, 1, none⟩ = false := blk_frozen V3.out 1; have V4 := Aside0.mk (show ((w3.setCell ⟨gx, 0, none⟩ (.string x.f0)).setCell ⟨gx, 1, none⟩ (.string x.f1)).heap[gx]? = some (.cells #[.string x.f0, .string x.f1] 54 (0, 0)) from blk_set (blk_set V3.out 0 _) 1 _); have u0_ : ((w3.setCell ⟨gx, 0, none⟩ (.string x.f0)).setCell ⟨gx, 1, none⟩ (.string x.f1)).cell? ⟨gx, 0, none⟩ = some (.string x.f0) := (blk_cell V4.out 0).trans rfl; have L4 := Aside0.mk (show Below w1.heap.size w1 ((w3.setCell ⟨gx, 0, none⟩ (.string x.f0)).setCell ⟨gx, 1, none⟩ (.string x.f1)) from (L3.out.setCell (p := ⟨gx, 0, none⟩) GX.out _).setCell (p := ⟨gx, 1, none⟩) GX.out _); have A4 := Aside0.mk (show k43.R 43 ((w3.setCell ⟨gx, 0, none⟩ (.string x.f0)).setCell ⟨gx, 1, none⟩ (.string x.f1)) w1.heap.size (fun _ => True) (.slice A0 acc.length c0) acc from own_far (own_far A3.out V3.out (by decide) 0 _) (blk_set V3.out 0 _) (by decide) 1 _); clear hx hb hgx k0 k1)
          | (go_at_call 26; refine (inode_Parse.calls k x.f0 q1 q2 q3 q4 q5 _ HPA.out).mono ?_; rintro e w4 ⟨rfl, hb⟩; have V5 := Aside0.mk (blk_below V4.out hb); have L5 := Aside0.mk (below_step L4.out hb); have A5 := Aside0.mk (Kd.R_below A4.out hb); clear hb q0_ q1_ f0_ f1_ u0_)
          | ((with_reducible refine gate_dst (N := 13) rfl ?_); refine box_event ?hg (N := 13) ?hd (cs := #[.int .u8 0, .int .u32 0, .string ⟨#[]⟩, .int .u32 0]) (t := 71) ?hr ?_; (case hd => rfl); (case hg => rfl); (case hr => first | (go_simp; done) | (go_simp; rfl)); intro gk hgk w5 hx hb; have N6 := Aside0.mk (show gx ≠ gk by have := blk_lt V5.out; omega); have GK := Aside0.mk (show w1.heap.size ≤ gk by have := L5.out.size; omega); have K6 := Aside0.mk hx; have V6 := Aside0.mk (blk_below V5.out hb); have L6 := Aside0.mk (below_step L5.out hb); have A6 := Aside0.mk (Kd.R_below A5.out hb); have q0_ : w5.cell? ⟨gk, 0, none⟩ = some (.int .u8 0) := (blk_cell K6.out 0).trans rfl; have f0_ : w5.frozen? ⟨gk, 0, none⟩ = false := blk_frozen K6.out 0; have q1_ : w5.cell? ⟨gk, 1, none⟩ = some (.int .u32 0) := (blk_cell K6.out 1).trans rfl; have f1_ : w5.frozen? ⟨gk, 1, none⟩ = false := blk_frozen K6.out 1; have q2_ : w5.cell? ⟨gk, 2, none⟩ = some (.string ⟨#[]⟩) := (blk_cell K6.out 2).trans rfl; have f2_ : w5.frozen? ⟨gk, 2, none⟩ = false := blk_frozen K6.out 2; have q3_ : w5.cell? ⟨gk, 3, none⟩ = some (.int .u32 0) := (blk_cell K6.out 3).trans rfl; have f3_ : w5.frozen? ⟨gk, 3, none⟩ = false := blk_frozen K6.out 3; have K7 := Aside0.mk (show ((((w5.setCell ⟨gk, 0, none⟩ (.int .u8 q1)).setCell ⟨gk, 1, none⟩ (.int .u32 q2)).setCell ⟨gk, 2, none⟩ (.string q3)).setCell ⟨gk, 3, none⟩ (.int .u32 q4)).heap[gk]? = some (.cells #[.int .u8 q1, .int .u32 q2, .string q3, .int .u32 q4] 71 (0, 0)) from (blk_set (blk_set (blk_set (blk_set K6.out 0 _) 1 _) 2 _) 3 _)); have V7 := Aside0.mk (show ((((w5.setCell ⟨gk, 0, none⟩ (.int .u8 q1)).setCell ⟨gk, 1, none⟩ (.int .u32 q2)).setCell ⟨gk, 2, none⟩ (.string q3)).setCell ⟨gk, 3, none⟩ (.int .u32 q4)).heap[gx]? = some (.cells #[.string x.f0, .string x.f1] 54 (0, 0)) from by rw [Below.heap_setCell _ ⟨gk, 3, none⟩ _ gx N6.out, Below.heap_setCell _ ⟨gk, 2, none⟩ _ gx N6.out, Below.heap_setCell _ ⟨gk, 1, none⟩ _ gx N6.out, Below.heap_setCell _ ⟨gk, 0, none⟩ _ gx N6.out]; exact V6.out); have L7 := Aside0.mk (show Below w1.heap.size w1 ((((w5.setCell ⟨gk, 0, none⟩ (.int .u8 q1)).setCell ⟨gk, 1, none⟩ (.int .u32 q2)).setCell ⟨gk, 2, none⟩ (.string q3)).setCell ⟨gk, 3, none⟩ (.int .u32 q4)) from ((((L6.out.setCell (p := ⟨gk, 0, none⟩) GK.out _).setCell (p := ⟨gk, 1, none⟩) GK.out _).setCell (p := ⟨gk, 2, none⟩) GK.out _).setCell (p := ⟨gk, 3, none⟩) GK.out _)); have A7 := Aside0.mk (show k43.R 43 ((((w5.setCell ⟨gk, 0, none⟩ (.int .u8 q1)).setCell ⟨gk, 1, none⟩ (.int .u32 q2)).setCell ⟨gk, 2, none⟩ (.string q3)).setCell ⟨gk, 3, none⟩ (.int .u32 q4)) w1.heap.size (fun _ => True) (.slice A0 acc.length c0) acc from (own_far (own_far (own_far (own_far A6.out K6.out (by decide) 0 _) (blk_set K6.out 0 _) (by decide) 1 _) (blk_set (blk_set K6.out 0 _) 1 _) (by decide) 2 _) (blk_set (blk_set (blk_set K6.out 0 _) 1 _) 2 _) (by decide) 3 _)); have c3_ : ((((w5.setCell ⟨gk, 0, none⟩ (.int .u8 q1)).setCell ⟨gk, 1, none⟩ (.int .u32 q2)).setCell ⟨gk, 2, none⟩ (.string q3)).setCell ⟨gk, 3, none⟩ (.int .u32 q4)).cell? ⟨gk, 3, none⟩ = some (.int .u32 q4) := (blk_cell K7.out 3).trans rfl; have x0_ : ((((w5.setCell ⟨gk, 0, none⟩ (.int .u8 q1)).setCell ⟨gk, 1, none⟩ (.int .u32 q2)).setCell ⟨gk, 2, none⟩ (.string q3)).setCell ⟨gk, 3, none⟩ (.int .u32 q4)).cell? ⟨gx, 0, none⟩ = some (.string x.f0) := (blk_cell V7.out 0).trans rfl; have x1_ : ((((w5.setCell ⟨gk, 0, none⟩ (.int .u8 q1)).setCell ⟨gk, 1, none⟩ (.int .u32 q2)).setCell ⟨gk, 2, none⟩ (.string q3)).setCell ⟨gk, 3, none⟩ (.int .u32 q4)).cell? ⟨gx, 1, none⟩ = some (.string x.f1) := (blk_cell V7.out 1).trans rfl; clear hx hb hgk)
          | ((with_reducible refine gate_dst (N := 60) rfl ?_); refine Kd.R_lit k43 _ 43 ?hg (N := 60) ?hd (xs := [(⟨x.f0, false, ⟨#[]⟩⟩ : S43)]) (inner := [.string x.f0, .bool false, .string ⟨#[]⟩]) (ok := fun _ => True) (okp := fun _ => True) ?hr ?hp (fun _ hk => hk) trivial (Below.refl _ _) (Nat.le_refl _) (by simp) ?_; (case hd => rfl); (case hg => rfl); (case hr => first | (go_simp; done) | (go_simp; rfl)); (case hp => exact (Reps.c3 (show Kd.M k43 _ _ _ (⟨x.f0, false, ⟨#[]⟩⟩ : S43) [.string x.f0, .bool false, .string ⟨#[]⟩] from (k43_mkM _ _ _ (⟨x.f0, false, ⟨#[]⟩⟩ : S43) )) (Reps.none _ _))); intro v8 w8 ho hb hg_ hnew_; have R8 := Aside0.mk ho; have L8 := Aside0.mk (below_step L7.out hb); have A8 := Aside0.mk (Kd.R_below A7.out hb); obtain ⟨B8, d8, rfl⟩ := Kd.R_slice ho; clear ho hb hg_ hnew_ q0_ q1_ q2_ q3_ f0_ f1_ f2_ f3_ c3_ x0_ x1_)
          | (at_builtin; refine Kd.R_append_rows k43 (w0 := w1) w1.heap.size rfl (.tmp 56) (.tmp 60) 25 43 (.agg #[.string ⟨#[]⟩, .bool false, .string ⟨#[]⟩]) 40 rfl Tryz.underlying25 info_Change rfl (by decide) (by omega) (.slice A0 acc.length c0) acc [⟨x.f0, false, ⟨#[]⟩⟩] _ _ _ (fun _ => True) (fun _ => False) rfl rfl ?aO ?aR (fun _ _ h => h) (fun _ h => h.elim) ?aF ?aB ?aS ?aL ?_; (case aR => exact (Kd.R_reads' R8.out).2.2); (case aB => exact L8.out); (case aF => exact (fun _ _ => trivial)); (case aO => exact A8.out); (case aS => exact L8.out.size); (case aL => have := HLN.out; simp; omega); intro v9 w9 ho hb hg hat; have A9 := Aside0.mk ho; have L9 := Aside0.mk hb; clear ho hb hg hat))
        have hi := HI.out
        have hl := LI.out
        go_roundw
        case rel => exact ⟨i + 1, acc ++ [⟨x.f0, false, ⟨#[]⟩⟩], by rw [EW.out], ⟨by omega⟩, A9, L9, HRR⟩
        case measure =>
          simp [EW.out, intOf]
          omega
      · rw [if_neg hle] at hR
        have z0 : decide (lf ≤ 0) = false := decide_eq_false hle
        by_cases hls : lf < (x.f1.size : Int)
        · rw [if_pos hls] at hR
          obtain ⟨cs, hcs, hR⟩ := Option.bind_eq_some_iff.mp hR
          split at hR
          case isFalse => cases hR
          case isTrue hcl =>
          have z1 : decide (lf < (x.f1.size : Int)) = true := decide_eq_true hls
          have HRR := Aside0.mk hR
          have HCS := Aside0.mk hcs
          have HCL := Aside0.mk hcl
          have HLS := Aside0.mk (show 0 ≤ lf ∧ lf ≤ x.f1.size by omega)
          clear hR hle hls hcs hcl hc3
          go_wp2_with (first
          | ((with_reducible refine gate_dst (N := 12) rfl ?_); refine box_event ?hg (N := 12) ?hd (cs := #[.string ⟨#[]⟩, .string ⟨#[]⟩]) (t := 54) ?hr ?_; (case hd => rfl); (case hg => rfl); (case hr => first | (go_simp; done) | (go_simp; rfl)); intro gx hgx w3 hx hb; have V3 := Aside0.mk hx; have GX := Aside0.mk (show w1.heap.size ≤ gx by have := HL.out.size; omega); have L3 := Aside0.mk (below_step HL.out hb); have A3 := Aside0.mk (Kd.R_below HA.out hb); have q0_ : w3.cell? ⟨gx, 0, none⟩ = some (.string ⟨#[]⟩) := (blk_cell V3.out 0).trans rfl; have f0_ : w3.frozen? ⟨gx, 0, none⟩ = false := blk_frozen V3.out 0; have q1_ : w3.cell? ⟨gx, 1, none⟩ = some (.string ⟨#[]⟩) := (blk_cell V3.out 1).trans rfl; have f1_ : w3.frozen? ⟨gx, 1, none⟩ = false := blk_frozen V3.out 1; have V4 := Aside0.mk (show ((w3.setCell ⟨gx, 0, none⟩ (.string x.f0)).setCell ⟨gx, 1, none⟩ (.string x.f1)).heap[gx]? = some (.cells #[.string x.f0, .string x.f1] 54 (0, 0)) from blk_set (blk_set V3.out 0 _) 1 _); have u0_ : ((w3.setCell ⟨gx, 0, none⟩ (.string x.f0)).setCell ⟨gx, 1, none⟩ (.string x.f1)).cell? ⟨gx, 0, none⟩ = some (.string x.f0) := (blk_cell V4.out 0).trans rfl; have L4 := Aside0.mk (show Below w1.heap.size w1 ((w3.setCell ⟨gx, 0, none⟩ (.string x.f0)).setCell ⟨gx, 1, none⟩ (.string x.f1)) from (L3.out.setCell (p := ⟨gx, 0, none⟩) GX.out _).setCell (p := ⟨gx, 1, none⟩) GX.out _); have A4 := Aside0.mk (show k43.R 43 ((w3.setCell ⟨gx, 0, none⟩ (.string x.f0)).setCell ⟨gx, 1, none⟩ (.string x.f1)) w1.heap.size (fun _ => True) (.slice A0 acc.length c0) acc from own_far (own_far A3.out V3.out (by decide) 0 _) (blk_set V3.out 0 _) (by decide) 1 _); clear hx hb hgx k0 k1)
          | (go_at_call 26; refine (inode_Parse.calls k x.f0 q1 q2 q3 q4 q5 _ HPA.out).mono ?_; rintro e w4 ⟨rfl, hb⟩; have V5 := Aside0.mk (blk_below V4.out hb); have L5 := Aside0.mk (below_step L4.out hb); have A5 := Aside0.mk (Kd.R_below A4.out hb); clear hb q0_ q1_ f0_ f1_ u0_)
          | ((with_reducible refine gate_dst (N := 13) rfl ?_); refine box_event ?hg (N := 13) ?hd (cs := #[.int .u8 0, .int .u32 0, .string ⟨#[]⟩, .int .u32 0]) (t := 71) ?hr ?_; (case hd => rfl); (case hg => rfl); (case hr => first | (go_simp; done) | (go_simp; rfl)); intro gk hgk w5 hx hb; have N6 := Aside0.mk (show gx ≠ gk by have := blk_lt V5.out; omega); have GK := Aside0.mk (show w1.heap.size ≤ gk by have := L5.out.size; omega); have K6 := Aside0.mk hx; have V6 := Aside0.mk (blk_below V5.out hb); have L6 := Aside0.mk (below_step L5.out hb); have A6 := Aside0.mk (Kd.R_below A5.out hb); have q0_ : w5.cell? ⟨gk, 0, none⟩ = some (.int .u8 0) := (blk_cell K6.out 0).trans rfl; have f0_ : w5.frozen? ⟨gk, 0, none⟩ = false := blk_frozen K6.out 0; have q1_ : w5.cell? ⟨gk, 1, none⟩ = some (.int .u32 0) := (blk_cell K6.out 1).trans rfl; have f1_ : w5.frozen? ⟨gk, 1, none⟩ = false := blk_frozen K6.out 1; have q2_ : w5.cell? ⟨gk, 2, none⟩ = some (.string ⟨#[]⟩) := (blk_cell K6.out 2).trans rfl; have f2_ : w5.frozen? ⟨gk, 2, none⟩ = false := blk_frozen K6.out 2; have q3_ : w5.cell? ⟨gk, 3, none⟩ = some (.int .u32 0) := (blk_cell K6.out 3).trans rfl; have f3_ : w5.frozen? ⟨gk, 3, none⟩ = false := blk_frozen K6.out 3; have K7 := Aside0.mk (show ((((w5.setCell ⟨gk, 0, none⟩ (.int .u8 q1)).setCell ⟨gk, 1, none⟩ (.int .u32 q2)).setCell ⟨gk, 2, none⟩ (.string q3)).setCell ⟨gk, 3, none⟩ (.int .u32 q4)).heap[gk]? = some (.cells #[.int .u8 q1, .int .u32 q2, .string q3, .int .u32 q4] 71 (0, 0)) from (blk_set (blk_set (blk_set (blk_set K6.out 0 _) 1 _) 2 _) 3 _)); have V7 := Aside0.mk (show ((((w5.setCell ⟨gk, 0, none⟩ (.int .u8 q1)).setCell ⟨gk, 1, none⟩ (.int .u32 q2)).setCell ⟨gk, 2, none⟩ (.string q3)).setCell ⟨gk, 3, none⟩ (.int .u32 q4)).heap[gx]? = some (.cells #[.string x.f0, .string x.f1] 54 (0, 0)) from by rw [Below.heap_setCell _ ⟨gk, 3, none⟩ _ gx N6.out, Below.heap_setCell _ ⟨gk, 2, none⟩ _ gx N6.out, Below.heap_setCell _ ⟨gk, 1, none⟩ _ gx N6.out, Below.heap_setCell _ ⟨gk, 0, none⟩ _ gx N6.out]; exact V6.out); have L7 := Aside0.mk (show Below w1.heap.size w1 ((((w5.setCell ⟨gk, 0, none⟩ (.int .u8 q1)).setCell ⟨gk, 1, none⟩ (.int .u32 q2)).setCell ⟨gk, 2, none⟩ (.string q3)).setCell ⟨gk, 3, none⟩ (.int .u32 q4)) from ((((L6.out.setCell (p := ⟨gk, 0, none⟩) GK.out _).setCell (p := ⟨gk, 1, none⟩) GK.out _).setCell (p := ⟨gk, 2, none⟩) GK.out _).setCell (p := ⟨gk, 3, none⟩) GK.out _)); have A7 := Aside0.mk (show k43.R 43 ((((w5.setCell ⟨gk, 0, none⟩ (.int .u8 q1)).setCell ⟨gk, 1, none⟩ (.int .u32 q2)).setCell ⟨gk, 2, none⟩ (.string q3)).setCell ⟨gk, 3, none⟩ (.int .u32 q4)) w1.heap.size (fun _ => True) (.slice A0 acc.length c0) acc from (own_far (own_far (own_far (own_far A6.out K6.out (by decide) 0 _) (blk_set K6.out 0 _) (by decide) 1 _) (blk_set (blk_set K6.out 0 _) 1 _) (by decide) 2 _) (blk_set (blk_set (blk_set K6.out 0 _) 1 _) 2 _) (by decide) 3 _)); have c3_ : ((((w5.setCell ⟨gk, 0, none⟩ (.int .u8 q1)).setCell ⟨gk, 1, none⟩ (.int .u32 q2)).setCell ⟨gk, 2, none⟩ (.string q3)).setCell ⟨gk, 3, none⟩ (.int .u32 q4)).cell? ⟨gk, 3, none⟩ = some (.int .u32 q4) := (blk_cell K7.out 3).trans rfl; have x0_ : ((((w5.setCell ⟨gk, 0, none⟩ (.int .u8 q1)).setCell ⟨gk, 1, none⟩ (.int .u32 q2)).setCell ⟨gk, 2, none⟩ (.string q3)).setCell ⟨gk, 3, none⟩ (.int .u32 q4)).cell? ⟨gx, 0, none⟩ = some (.string x.f0) := (blk_cell V7.out 0).trans rfl; have x1_ : ((((w5.setCell ⟨gk, 0, none⟩ (.int .u8 q1)).setCell ⟨gk, 1, none⟩ (.int .u32 q2)).setCell ⟨gk, 2, none⟩ (.string q3)).setCell ⟨gk, 3, none⟩ (.int .u32 q4)).cell? ⟨gx, 1, none⟩ = some (.string x.f1) := (blk_cell V7.out 1).trans rfl; clear hx hb hgk))
          generalize hw8 : ((((w5.setCell ⟨gk, 0, none⟩ (.int .u8 q1)).setCell ⟨gk, 1, none⟩ (.int .u32 q2)).setCell ⟨gk, 2, none⟩ (.string q3)).setCell ⟨gk, 3, none⟩ (.int .u32 q4)) = w8 at K7 V7 L7 A7 c3_ x0_ x1_ ⊢
          clear hw8 q0_ q1_ q2_ q3_ f0_ f1_ f2_ f3_ x0_
          have y0 : ((0 : Int) ≤ lf) = True := eq_true HLS.out.1
          have y1 : (lf ≤ (x.f1.size : Int)) = True := eq_true HLS.out.2
          go_region_held3 (fun w' => w'.cell? ⟨gk, 3, none⟩ = some (.int .u32 q4) ∧ w'.cell? ⟨gx, 1, none⟩ = some (.string x.f1)) (first | exact ⟨c3_, x1_⟩ | exact ⟨c9_, x9_⟩ | exact ⟨c10_, x10_⟩) (first
            | (go_at_call 16; refine (keep_calls k g ino q4 _ (some ad) c1 o1 cs _ ((F1.out.below L7.out).below (by first | exact Below.refl _ _ | exact below_drew1 (Below.refl _ _) | exact pw_below_drewN (Below.refl _ _) _)) HCS.out).mono ?_; rintro e w9 ⟨v9, rfl, ho, hb⟩; have R9 := Aside0.mk ho; have A9 := Aside0.mk (Kd.R_below (Kd.R_below A7.out (by first | exact Below.refl _ _ | exact below_drew1 (Below.refl _ _) | exact pw_below_drewN (Below.refl _ _) _)) hb); have L9 := Aside0.mk (below_step (below_step L7.out (by first | exact Below.refl _ _ | exact below_drew1 (Below.refl _ _) | exact pw_below_drewN (Below.refl _ _) _)) hb); have K9 := Aside0.mk (blk_below (blk_below K7.out (by first | exact Below.refl _ _ | exact below_drew1 (Below.refl _ _) | exact pw_below_drewN (Below.refl _ _) _)) hb); have V9 := Aside0.mk (blk_below (blk_below V7.out (by first | exact Below.refl _ _ | exact below_drew1 (Below.refl _ _) | exact pw_below_drewN (Below.refl _ _) _)) hb); have c9_ : w9.cell? ⟨gk, 3, none⟩ = some (.int .u32 q4) := (blk_cell K9.out 3).trans rfl; have x9_ : w9.cell? ⟨gx, 1, none⟩ = some (.string x.f1) := (blk_cell V9.out 1).trans rfl; obtain ⟨AR, cR, rfl⟩ := Kd.R_slice ho; clear ho hb)
            | (refine Kd.R_append_rows_step k43 (w0 := w1) w1.heap.size (by rfl) (.tmp 68) (.tmp 77) 25 43 (.agg #[.string ⟨#[]⟩, .bool false, .string ⟨#[]⟩]) 40 rfl Tryz.underlying25 info_Change rfl (by decide) (by omega) (.slice A0 acc.length c0) acc cs _ _ _ (fun _ => True) (fun _ => False) rfl rfl ?aO ?aR (fun _ _ h => h) (fun _ h => h.elim) ?aF ?aB ?aS ?aL ?_; (case aR => exact (Kd.R_reads' R9.out).2.2); (case aB => exact L9.out); (case aF => exact (fun _ _ => trivial)); (case aO => exact A9.out); (case aS => exact L9.out.size); (case aL => have := HLN.out; have := HCL.out; omega); intro v10 w10 ho hb hg hat; have A10 := Aside0.mk ho; have L10 := Aside0.mk hb; have K10 := (hg.block gk (blk_lt K9.out) (Kd.R_ne A9.out K9.out (by decide))).trans K9.out; have V10 := (hg.block gx (blk_lt V9.out) (Kd.R_ne A9.out V9.out (by decide))).trans V9.out; have c10_ : w10.cell? ⟨gk, 3, none⟩ = some (.int .u32 q4) := (blk_cell K10 3).trans rfl; have x10_ : w10.cell? ⟨gx, 1, none⟩ = some (.string x.f1) := (blk_cell V10 1).trans rfl; clear ho hb hg hat K10 V10))
          have hi := HI.out
          have hl := LI.out
          go_wp2
          go_roundw
          case rel => exact ⟨i + 1, acc ++ cs, by rw [EW.out], ⟨by omega⟩, A10, L10, HRR⟩
          case measure =>
            simp [EW.out, intOf]
            omega
        · rw [if_neg hls] at hR
          have z1 : decide (lf < (x.f1.size : Int)) = false := decide_eq_false hls
          have HRR := Aside0.mk hR
          clear hR hle hls hc3
          go_wp2_with (first
          | ((with_reducible refine gate_dst (N := 12) rfl ?_); refine box_event ?hg (N := 12) ?hd (cs := #[.string ⟨#[]⟩, .string ⟨#[]⟩]) (t := 54) ?hr ?_; (case hd => rfl); (case hg => rfl); (case hr => first | (go_simp; done) | (go_simp; rfl)); intro gx hgx w3 hx hb; have V3 := Aside0.mk hx; have GX := Aside0.mk (show w1.heap.size ≤ gx by have := HL.out.size; omega); have L3 := Aside0.mk (below_step HL.out hb); have A3 := Aside0.mk (Kd.R_below HA.out hb); have q0_ : w3.cell? ⟨gx, 0, none⟩ = some (.string ⟨#[]⟩) := (blk_cell V3.out 0).trans rfl; have f0_ : w3.frozen? ⟨gx, 0, none⟩ = false := blk_frozen V3.out 0; have q1_ : w3.cell? ⟨gx, 1, none⟩ = some (.string ⟨#[]⟩) := (blk_cell V3.out 1).trans rfl; have f1_ : w3.frozen? ⟨gx, 1, none⟩ = false := blk_frozen V3.out 1; have V4 := Aside0.mk (show ((w3.setCell ⟨gx, 0, none⟩ (.string x.f0)).setCell ⟨gx, 1, none⟩ (.string x.f1)).heap[gx]? = some (.cells #[.string x.f0, .string x.f1] 54 (0, 0)) from blk_set (blk_set V3.out 0 _) 1 _); have u0_ : ((w3.setCell ⟨gx, 0, none⟩ (.string x.f0)).setCell ⟨gx, 1, none⟩ (.string x.f1)).cell? ⟨gx, 0, none⟩ = some (.string x.f0) := (blk_cell V4.out 0).trans rfl; have L4 := Aside0.mk (show Below w1.heap.size w1 ((w3.setCell ⟨gx, 0, none⟩ (.string x.f0)).setCell ⟨gx, 1, none⟩ (.string x.f1)) from (L3.out.setCell (p := ⟨gx, 0, none⟩) GX.out _).setCell (p := ⟨gx, 1, none⟩) GX.out _); have A4 := Aside0.mk (show k43.R 43 ((w3.setCell ⟨gx, 0, none⟩ (.string x.f0)).setCell ⟨gx, 1, none⟩ (.string x.f1)) w1.heap.size (fun _ => True) (.slice A0 acc.length c0) acc from own_far (own_far A3.out V3.out (by decide) 0 _) (blk_set V3.out 0 _) (by decide) 1 _); clear hx hb hgx k0 k1)
          | (go_at_call 26; refine (inode_Parse.calls k x.f0 q1 q2 q3 q4 q5 _ HPA.out).mono ?_; rintro e w4 ⟨rfl, hb⟩; have V5 := Aside0.mk (blk_below V4.out hb); have L5 := Aside0.mk (below_step L4.out hb); have A5 := Aside0.mk (Kd.R_below A4.out hb); clear hb q0_ q1_ f0_ f1_ u0_)
          | ((with_reducible refine gate_dst (N := 13) rfl ?_); refine box_event ?hg (N := 13) ?hd (cs := #[.int .u8 0, .int .u32 0, .string ⟨#[]⟩, .int .u32 0]) (t := 71) ?hr ?_; (case hd => rfl); (case hg => rfl); (case hr => first | (go_simp; done) | (go_simp; rfl)); intro gk hgk w5 hx hb; have N6 := Aside0.mk (show gx ≠ gk by have := blk_lt V5.out; omega); have GK := Aside0.mk (show w1.heap.size ≤ gk by have := L5.out.size; omega); have K6 := Aside0.mk hx; have V6 := Aside0.mk (blk_below V5.out hb); have L6 := Aside0.mk (below_step L5.out hb); have A6 := Aside0.mk (Kd.R_below A5.out hb); have q0_ : w5.cell? ⟨gk, 0, none⟩ = some (.int .u8 0) := (blk_cell K6.out 0).trans rfl; have f0_ : w5.frozen? ⟨gk, 0, none⟩ = false := blk_frozen K6.out 0; have q1_ : w5.cell? ⟨gk, 1, none⟩ = some (.int .u32 0) := (blk_cell K6.out 1).trans rfl; have f1_ : w5.frozen? ⟨gk, 1, none⟩ = false := blk_frozen K6.out 1; have q2_ : w5.cell? ⟨gk, 2, none⟩ = some (.string ⟨#[]⟩) := (blk_cell K6.out 2).trans rfl; have f2_ : w5.frozen? ⟨gk, 2, none⟩ = false := blk_frozen K6.out 2; have q3_ : w5.cell? ⟨gk, 3, none⟩ = some (.int .u32 0) := (blk_cell K6.out 3).trans rfl; have f3_ : w5.frozen? ⟨gk, 3, none⟩ = false := blk_frozen K6.out 3; have K7 := Aside0.mk (show ((((w5.setCell ⟨gk, 0, none⟩ (.int .u8 q1)).setCell ⟨gk, 1, none⟩ (.int .u32 q2)).setCell ⟨gk, 2, none⟩ (.string q3)).setCell ⟨gk, 3, none⟩ (.int .u32 q4)).heap[gk]? = some (.cells #[.int .u8 q1, .int .u32 q2, .string q3, .int .u32 q4] 71 (0, 0)) from (blk_set (blk_set (blk_set (blk_set K6.out 0 _) 1 _) 2 _) 3 _)); have V7 := Aside0.mk (show ((((w5.setCell ⟨gk, 0, none⟩ (.int .u8 q1)).setCell ⟨gk, 1, none⟩ (.int .u32 q2)).setCell ⟨gk, 2, none⟩ (.string q3)).setCell ⟨gk, 3, none⟩ (.int .u32 q4)).heap[gx]? = some (.cells #[.string x.f0, .string x.f1] 54 (0, 0)) from by rw [Below.heap_setCell _ ⟨gk, 3, none⟩ _ gx N6.out, Below.heap_setCell _ ⟨gk, 2, none⟩ _ gx N6.out, Below.heap_setCell _ ⟨gk, 1, none⟩ _ gx N6.out, Below.heap_setCell _ ⟨gk, 0, none⟩ _ gx N6.out]; exact V6.out); have L7 := Aside0.mk (show Below w1.heap.size w1 ((((w5.setCell ⟨gk, 0, none⟩ (.int .u8 q1)).setCell ⟨gk, 1, none⟩ (.int .u32 q2)).setCell ⟨gk, 2, none⟩ (.string q3)).setCell ⟨gk, 3, none⟩ (.int .u32 q4)) from ((((L6.out.setCell (p := ⟨gk, 0, none⟩) GK.out _).setCell (p := ⟨gk, 1, none⟩) GK.out _).setCell (p := ⟨gk, 2, none⟩) GK.out _).setCell (p := ⟨gk, 3, none⟩) GK.out _)); have A7 := Aside0.mk (show k43.R 43 ((((w5.setCell ⟨gk, 0, none⟩ (.int .u8 q1)).setCell ⟨gk, 1, none⟩ (.int .u32 q2)).setCell ⟨gk, 2, none⟩ (.string q3)).setCell ⟨gk, 3, none⟩ (.int .u32 q4)) w1.heap.size (fun _ => True) (.slice A0 acc.length c0) acc from (own_far (own_far (own_far (own_far A6.out K6.out (by decide) 0 _) (blk_set K6.out 0 _) (by decide) 1 _) (blk_set (blk_set K6.out 0 _) 1 _) (by decide) 2 _) (blk_set (blk_set (blk_set K6.out 0 _) 1 _) 2 _) (by decide) 3 _)); have c3_ : ((((w5.setCell ⟨gk, 0, none⟩ (.int .u8 q1)).setCell ⟨gk, 1, none⟩ (.int .u32 q2)).setCell ⟨gk, 2, none⟩ (.string q3)).setCell ⟨gk, 3, none⟩ (.int .u32 q4)).cell? ⟨gk, 3, none⟩ = some (.int .u32 q4) := (blk_cell K7.out 3).trans rfl; have x0_ : ((((w5.setCell ⟨gk, 0, none⟩ (.int .u8 q1)).setCell ⟨gk, 1, none⟩ (.int .u32 q2)).setCell ⟨gk, 2, none⟩ (.string q3)).setCell ⟨gk, 3, none⟩ (.int .u32 q4)).cell? ⟨gx, 0, none⟩ = some (.string x.f0) := (blk_cell V7.out 0).trans rfl; have x1_ : ((((w5.setCell ⟨gk, 0, none⟩ (.int .u8 q1)).setCell ⟨gk, 1, none⟩ (.int .u32 q2)).setCell ⟨gk, 2, none⟩ (.string q3)).setCell ⟨gk, 3, none⟩ (.int .u32 q4)).cell? ⟨gx, 1, none⟩ = some (.string x.f1) := (blk_cell V7.out 1).trans rfl; clear hx hb hgk))
          have hi := HI.out
          have hl := LI.out
          go_roundw
          case rel => exact ⟨i + 1, acc, by rw [EW.out], ⟨by omega⟩, A7, L7, HRR⟩
          case measure =>
            simp [EW.out, intOf]
            omega
    · have hge : decide (i < (o1.length : Int)) = false := decide_eq_false hlt
      have hR := HR.out
      rw [List.drop_eq_nil_of_le (by omega), cutL] at hR
      obtain rfl := Option.some.inj hR
      clear hR HR hlt hi0 hi1 hn
      go_wp2
      go_ret2
      exact ⟨_, rfl, Kd.R_lower HA.out B1.out.size, B1.out.trans (bel_le HL.out B1.out.size)⟩
set_option maxRecDepth 100000 in
set_option maxHeartbeats 3200000 in
theorem cut_bad_calls (k : Nat) (A : Option Addr) (cp : Nat) (l : List IT) (ino len : Int) (o1 : List IT) (o2 : Int) (w : World) (hC : Kd.C k54 w A l.length l) (hc : l.length ≤ cp)
    (h1 : openF k l ino = some (o1, o2)) (h2 : ¬ ck' o2 len = 0) :
    Calls Tryz.prog 12 #[.slice A l.length cp, .int .u32 ino, .int .u32 len] w fun e w' => e = .returned (.tuple #[.slice none 0 0, .int .i64 (ck' o2 len)]) ∧ Below w.heap.size w w' := by
  have HC := Aside0.mk hC
  have HP := Aside0.mk hc
  by_cases c0 : o2 = 0
  · subst c0
    have c1 : len > 65536 := by
      unfold ck' at h2
      rcases Decidable.em (len > 65536) with h | h
      · exact h
      · exact absurd (if_neg (fun h' => h h'.2)) h2
    have hk : ck' 0 len = 1 := if_pos ⟨rfl, c1⟩
    rw [hk]
    have k1 : decide (len > 65536) = true := decide_eq_true c1
    have H1 := Aside0.mk h1
    clear hC hc h1 h2 c1 hk
    go_enter Tryz.func12, Tryz.ntmps12
    go_wp2_with (go_at_call 14; refine (open_calls k A cp l ino o1 0 _ HC.out HP.out H1.out).mono ?_; rintro e w1 ⟨g, A1, c1, rfl, hF, hg, hb⟩; have B1 := Aside0.mk hb; clear hF hg hb)
    (try (refine wp_scope_post ?_; go_wp2_with (go_at_call 14; refine (open_calls k A cp l ino o1 0 _ HC.out HP.out H1.out).mono ?_; rintro e w1 ⟨g, A1, c1, rfl, hF, hg, hb⟩; have B1 := Aside0.mk hb; clear hF hg hb)))
    (try (go_step3; go_wp2_with (go_at_call 14; refine (open_calls k A cp l ino o1 0 _ HC.out HP.out H1.out).mono ?_; rintro e w1 ⟨g, A1, c1, rfl, hF, hg, hb⟩; have B1 := Aside0.mk hb; clear hF hg hb)))
    go_ret2
    exact ⟨rfl, B1.out⟩
  · have hk : ck' o2 len = o2 := if_neg (fun h => c0 h.1)
    rw [hk]
    have k1 : (o2 == 0) = false := beq_eq_false_iff_ne.2 c0
    have k2 : (o2 != 0) = true := bne_iff_ne.2 c0
    have H1 := Aside0.mk h1
    clear hC hc h1 h2 c0 hk
    go_enter Tryz.func12, Tryz.ntmps12
    go_wp2_with (go_at_call 14; refine (open_calls k A cp l ino o1 o2 _ HC.out HP.out H1.out).mono ?_; rintro e w1 ⟨g, A1, c1, rfl, hF, hg, hb⟩; have B1 := Aside0.mk hb; clear hF hg hb)
    (try (refine wp_scope_post ?_; go_wp2_with (go_at_call 14; refine (open_calls k A cp l ino o1 o2 _ HC.out HP.out H1.out).mono ?_; rintro e w1 ⟨g, A1, c1, rfl, hF, hg, hb⟩; have B1 := Aside0.mk hb; clear hF hg hb)))
    (try (go_step3; go_wp2_with (go_at_call 14; refine (open_calls k A cp l ino o1 o2 _ HC.out HP.out H1.out).mono ?_; rintro e w1 ⟨g, A1, c1, rfl, hF, hg, hb⟩; have B1 := Aside0.mk hb; clear hF hg hb)))
    go_ret2
    exact ⟨rfl, B1.out⟩
theorem data_Cut.calls (k : Nat) (A0 : Option Addr) (c0 : Nat) (l0 : List S54) (a1 a2 : Int) (r1 : List CH) (r2 : Int) (w : World) (hr0 : Kd.C k54 w A0 l0.length l0) (hc0 : l0.length ≤ c0) (h : data_Cut.f k l0 a1 a2 = some (r1, r2)) :
    Calls Tryz.prog 12 #[.slice A0 l0.length c0, .int .u32 a1, .int .u32 a2] w fun e w' => ∃ v0_, e = .returned (.tuple #[v0_, .int .i64 r2]) ∧ k43.R 43 w' w.heap.size (fun _ => True) v0_ r1 ∧ Below w.heap.size w w' := by
  unfold data_Cut.f at h
  split at h
  case isFalse => cases h
  case isTrue hr =>
  obtain ⟨⟨o1, o2⟩, h1, h⟩ := Option.bind_eq_some_iff.mp h
  by_cases hk : ck' o2 a2 = 0
  · rw [if_pos hk] at h
    obtain ⟨r, h2, h⟩ := Option.bind_eq_some_iff.mp h
    have h3 := Option.some.inj h
    simp only [Prod.mk.injEq] at h3
    obtain ⟨rfl, rfl⟩ := h3
    obtain ⟨rfl, hl⟩ : o2 = 0 ∧ a2 ≤ 65536 := by
      unfold ck' at hk
      split at hk
      · omega
      · omega
    exact cut_ok_calls k A0 c0 l0 a1 a2 o1 r w hr0 hc0 hr.1 hl h1 h2
  · rw [if_neg hk] at h
    have h3 := Option.some.inj h
    simp only [Prod.mk.injEq] at h3
    obtain ⟨rfl, rfl⟩ := h3
    exact (cut_bad_calls k A0 c0 l0 a1 a2 o1 o2 w hr0 hc0 h1 hk).mono fun e w' he => ⟨.slice none 0 0, he.1, Kd.R_nil _ _ _ _ _, he.2⟩
end Go.Proofs.YtnngbhdofgodiaaGreatDoor.Z
end

section
/- data: Read, Write, Cut. -/
end

section
/- Chunks of an inode among items: bytes by their place, what changes make of them. -/
namespace Go.Proofs.YtnngbhdofgodiaaGreatDoor.Z
open Go.RowKit Go.Proofs.YtnngbhdofgodiaaGreatDoorW.PrintWords Go.Proofs.YtnngbhdofgodiaaGreatDoorW.PrintLast Go.Proofs.YtnngbhdofgodiaaGreatDoorW.PrintMore Go.Proofs.YtnngbhdofgodiaaGreatDoor.PM
set_option linter.unusedVariables false
set_option linter.unusedSimpArgs false
/-! ### Keys of chunks -/
def kc (ino : Int) (c : Nat) : List UInt8 := keyL 3 ino [] (c : Int)
theorem kc_eq (ino : Int) (c : Nat) : kc ino c = (99 :: be 4 ino.toNat) ++ be 4 c := rfl
theorem pre_eq (ino : Int) : prefL 3 ino = 99 :: be 4 ino.toNat := rfl
theorem kc_right {ino : Int} {c : Nat} (hi : 0 < ino) (hc : c < 512) : rightK 3 ino [] (c : Int) = true := decide_eq_true ⟨hi, .inr (.inr ⟨rfl, rfl, by omega⟩)⟩
theorem kc_pars {ino : Int} {c : Nat} (hi : 0 < ino ∧ ino < 4294967296) (hc : c < 512) : parsS (kc ino c) = (3, ino, [], (c : Int), 0) := pars_key (kc_right hi.1 hc) ⟨by omega, hi.2⟩ (by omega)
theorem kc_inj {i i' : Int} {c c' : Nat} (hi : 0 < i ∧ i < 4294967296) (hi' : 0 < i' ∧ i' < 4294967296) (hc : c < 512) (hc' : c' < 512) (h : kc i c = kc i' c') : i = i' ∧ c = c' := by
  have h1 := kc_pars hi hc
  rw [h, kc_pars hi' hc'] at h1
  simp only [Prod.mk.injEq] at h1
  omega
theorem kc_pre (ino : Int) (c : Nat) : (prefL 3 ino).isPrefixOf (kc ino c) = true := by
  rw [List.isPrefixOf_iff_prefix]
  exact ⟨be 4 c, rfl⟩
theorem kc_less (ino : Int) {c d : Nat} (hc : c < 512) (hd : d < 512) : Op.bytesLess (kc ino c) (kc ino d) = decide (c < d) := by
  rw [kc_eq, kc_eq, bl_pre, be_less 4 c d (by rw [p4]; omega) (by rw [p4]; omega)]
theorem kc_len {ino : Int} {c : Nat} (hi : 0 < ino) (hc : c < 512) : 5 ≤ (kc ino c).length ∧ (kc ino c).length ≤ 48 := key_len (kc_right hi hc)
def okP (k : List UInt8) : Bool := (parsS k).2.2.2.2 == 0
def isK (ino : Int) (k : List UInt8) : Bool := okP k && (prefL 3 ino).isPrefixOf k
theorem isK_iff {ino : Int} (hi : 0 < ino ∧ ino < 4294967296) (k : List UInt8) : isK ino k = true ↔ ∃ c, c < 512 ∧ k = kc ino c := by
  constructor
  · intro h
    unfold isK at h
    obtain ⟨hp, hq⟩ := Bool.and_eq_true_iff.1 h
    obtain ⟨r, hr⟩ := List.isPrefixOf_iff_prefix.1 hq
    obtain ⟨⟨a, b, nm, c, e⟩, hx⟩ : ∃ x, x = parsS k := ⟨_, rfl⟩
    have he : e = 0 := by
      unfold okP at hp
      rw [← hx] at hp
      simpa using hp
    obtain ⟨h1, h2, h3, h4⟩ := key_pars hx.symm he
    have hl := lett_ne h1
    obtain ⟨q1, q2, _, _⟩ := key_parts (nm := nm) (c := c) hl h3
    rw [h2, ← hr, pre_eq] at q1 q2
    have g1e : g1 ((99 :: be 4 ino.toNat) ++ r) = 3 := rfl
    have g2e : g2 ((99 :: be 4 ino.toNat) ++ r) = ino := by
      unfold g2
      rw [List.cons_append, List.drop_one, List.tail_cons, tk (be_len _ _), num_be 4 _ (by rw [p4]; omega)]
      omega
    rw [g1e] at q1
    rw [g2e] at q2
    subst q1
    subst q2
    have h5 := h1
    unfold rightK at h5
    have h6 := (of_decide_eq_true h5).2
    have h7 : nm = [] ∧ c < 512 := by
      rcases h6 with h6 | h6 | h6
      · exact absurd h6.1 (by decide)
      · rcases h6.1 with h6 | h6 <;> exact absurd h6 (by decide)
      · exact h6.2
    obtain ⟨rfl, h7⟩ := h7
    refine ⟨c.toNat, by omega, ?_⟩
    unfold kc
    rw [Int.toNat_of_nonneg h4, h2]
  · rintro ⟨c, hc, rfl⟩
    unfold isK okP
    rw [kc_pars hi hc, kc_pre]
    rfl
/-! ### An inode's items -/
def own (l : List It) (ino : Int) : List It := (l.filter (hp (prefL 3 ino))).filter (fun x => okP (key x))
theorem own_eq (l : List It) (ino : Int) : own l ino = l.filter (fun x => isK ino (key x)) := by
  unfold own
  rw [List.filter_filter]
  rfl
theorem look_filter (f : List UInt8 → Bool) (k : List UInt8) : ∀ l : List It, look (l.filter (fun x => f (key x))) k = if f k = true then look l k else none
  | [] => by simp [look]
  | x :: l => by
    have ih := look_filter f k l
    by_cases hx : f (key x) = true
    · rw [List.filter_cons_of_pos (p := fun x => f (key x)) hx, look_cons, look_cons, ih]
      by_cases hk : key x = k
      · rw [if_pos hk, if_pos hk, if_pos (hk ▸ hx)]
      · rw [if_neg hk, if_neg hk]
    · rw [List.filter_cons_of_neg (p := fun x => f (key x)) hx, ih, look_cons]
      by_cases hk : key x = k
      · rw [if_neg (fun h => hx (hk ▸ h)), if_neg (fun h => hx (hk ▸ h))]
      · rw [if_neg hk]
theorem own_look {ino : Int} (hi : 0 < ino ∧ ino < 4294967296) (l : List It) {c : Nat} (hc : c < 512) : look (own l ino) (kc ino c) = look l (kc ino c) := by
  rw [own_eq, look_filter (isK ino), if_pos ((isK_iff hi _).2 ⟨c, hc, rfl⟩)]
theorem own_asc {l : List It} (ha : Asc l) (ino : Int) : Asc (own l ino) := by
  rw [own_eq]
  exact List.Pairwise.filter _ ha
theorem own_mem {l : List It} {ino : Int} {x : It} (h : x ∈ own l ino) : x ∈ l ∧ isK ino (key x) = true := by
  rw [own_eq] at h
  exact List.mem_filter.1 h
theorem own_len0 {ino : Int} : ∀ (L : List It) (a : Nat), Asc L → (∀ x ∈ L, ∃ c, a ≤ c ∧ c < 512 ∧ key x = kc ino c) → L.length ≤ 512 - a
  | [], a, _, _ => by simp
  | x :: L, a, ha, h => by
    obtain ⟨c, h1, h2, h3⟩ := h x (List.mem_cons_self ..)
    have := own_len0 L (c + 1) ha.cons.2 (fun y hy => by
      obtain ⟨d, g1, g2, g3⟩ := h y (List.mem_cons_of_mem _ hy)
      have hl := ha.cons.1 y hy
      rw [h3, g3, kc_less ino h2 g2] at hl
      exact ⟨d, of_decide_eq_true hl, g2, g3⟩)
    rw [List.length_cons]
    omega
theorem own_len {l : List It} (ha : Asc l) {ino : Int} (hi : 0 < ino ∧ ino < 4294967296) : (own l ino).length ≤ 512 :=
  own_len0 (ino := ino) _ 0 (own_asc ha ino) (fun x hx => by
    obtain ⟨c, hc, e⟩ := (isK_iff hi _).1 (own_mem hx).2
    exact ⟨c, Nat.zero_le _, hc, e⟩)
/-! ### Bytes -/
def vl (l : List It) (ino : Int) (c : Nat) : ByteArray := (look l (kc ino c)).getD ⟨#[]⟩
def byteD (l : List It) (ino : Int) (p : Nat) : UInt8 := (vl l ino (p / 128)).data.toList.getD (p % 128) 0
def chunkF (f : Nat → UInt8) (c : Nat) : List UInt8 := (List.range 128).map (fun i => f (128 * c + i))
theorem chunkF_len (f : Nat → UInt8) (c : Nat) : (chunkF f c).length = 128 := by simp [chunkF]
theorem chunkF_get (f : Nat → UInt8) (c i : Nat) (hi : i < 128) : (chunkF f c)[i]? = some (f (128 * c + i)) := by
  unfold chunkF
  rw [List.getElem?_map, List.getElem?_range hi]
  rfl
theorem chunkF_congr {f g : Nat → UInt8} {c : Nat} (h : ∀ p, p / 128 = c → f p = g p) : chunkF f c = chunkF g c := by
  unfold chunkF
  refine List.map_congr_left (fun i hi => h _ ?_)
  have := List.mem_range.1 hi
  omega
theorem over_get (b s : List UInt8) (o n i : Nat) (h : o + n ≤ b.length) : (over b s o n)[i]? = if o ≤ i ∧ i < o + min s.length n then s[i - o]? else b[i]? := by
  unfold over
  have l1 : (b.take o).length = o := by rw [List.length_take]; omega
  have l2 : (s.take n).length = min n s.length := List.length_take ..
  have l3 : (b.take o ++ s.take n).length = o + min n s.length := by rw [List.length_append, l1, l2]
  rcases Nat.lt_or_ge i (o + min n s.length) with h1 | h1
  · rw [List.getElem?_append_left (by rw [l3]; exact h1)]
    rcases Nat.lt_or_ge i o with h2 | h2
    · rw [List.getElem?_append_left (by rw [l1]; exact h2), List.getElem?_take, if_pos h2, if_neg (by omega)]
    · rw [List.getElem?_append_right (by rw [l1]; exact h2), l1, List.getElem?_take, if_pos (by omega), if_pos (by omega)]
  · rw [List.getElem?_append_right (by rw [l3]; exact h1), l3, List.getElem?_drop, if_neg (by omega)]
    congr 1
    omega
theorem padL_get (s : ByteArray) (i : Nat) (hi : i < 128) : (padL s)[i]? = some (s.data.toList.getD i 0) := by
  unfold padL
  rw [over_get _ _ _ _ _ (by simp)]
  rw [List.getD_eq_getElem?_getD]
  rcases Nat.lt_or_ge i s.data.toList.length with h | h
  · rw [if_pos (by omega), Nat.sub_zero, List.getElem?_eq_getElem h]
    rfl
  · rw [if_neg (by omega), List.getElem?_eq_none h, List.getElem?_replicate, if_pos hi]
    rfl
theorem padL_chunk (l : List It) (ino : Int) (c : Nat) : padL (vl l ino c) = chunkF (byteD l ino) c := by
  refine List.ext_getElem? (fun i => ?_)
  rcases Nat.lt_or_ge i 128 with h | h
  · rw [padL_get _ _ h, chunkF_get _ _ _ h]
    unfold byteD
    rw [show (128 * c + i) / 128 = c by omega, show (128 * c + i) % 128 = i by omega]
  · rw [List.getElem?_eq_none (by rw [padL_len]; exact h), List.getElem?_eq_none (by rw [chunkF_len]; exact h)]
/-- f, with s laid over it from p on. -/
def layF (f : Nat → UInt8) (p : Nat) (s : List UInt8) (q : Nat) : UInt8 := if p ≤ q ∧ q < p + s.length then s.getD (q - p) 0 else f q
theorem over_chunk (f : Nat → UInt8) (p : Nat) (s : List UInt8) : over (chunkF f (p / 128)) s (p % 128) (128 - p % 128) = chunkF (layF f p s) (p / 128) := by
  have hp : p % 128 < 128 := Nat.mod_lt _ (by decide)
  refine List.ext_getElem? (fun i => ?_)
  rw [over_get _ _ _ _ _ (by rw [chunkF_len]; omega)]
  rcases Nat.lt_or_ge i 128 with h | h
  · rw [chunkF_get _ _ _ h, chunkF_get _ _ _ h]
    unfold layF
    by_cases hq : p % 128 ≤ i ∧ i < p % 128 + min s.length (128 - p % 128)
    · rw [if_pos hq, if_pos (by omega), List.getD_eq_getElem?_getD, show 128 * (p / 128) + i - p = i - p % 128 by omega, List.getElem?_eq_getElem (show i - p % 128 < s.length by omega)]
      rfl
    · rw [if_neg hq, if_neg (by omega)]
  · rw [if_neg (by omega), List.getElem?_eq_none (by rw [chunkF_len]; exact h), List.getElem?_eq_none (by rw [chunkF_len]; exact h)]
/-! ### What is kept of a chunk -/
def opt (t : ByteArray) : Option (List UInt8) := if t.data.toList = [] then none else some t.data.toList
def lk (l : List It) (k : List UInt8) : Option (List UInt8) := (look l k).map (fun v => v.data.toList)
def keepS (l : List It) (ino : Int) (j : Nat) (t : ByteArray) : List Ch := if lk l (kc ino j) = opt t then [] else [⟨ba (kc ino j), !t.data.toList.isEmpty, t⟩]
theorem byteD_lk {l m : List It} {ino i2 : Int} {p : Nat} (h : lk l (kc ino (p / 128)) = lk m (kc i2 (p / 128))) : byteD l ino p = byteD m i2 p := by
  unfold byteD vl
  unfold lk at h
  cases ha : look l (kc ino (p / 128)) <;> cases hb : look m (kc i2 (p / 128)) <;> rw [ha, hb] at h <;> simp at h
  simp only [Option.getD_some]
  rw [h]
theorem byteD_opt {l : List It} {ino : Int} {p : Nat} {t : ByteArray} (h : lk l (kc ino (p / 128)) = opt t) : byteD l ino p = t.data.toList.getD (p % 128) 0 := by
  unfold byteD vl
  unfold lk opt at h
  by_cases ht : t.data.toList = []
  · rw [if_pos ht] at h
    rw [Option.map_eq_none_iff.1 h, ht]
    rfl
  · rw [if_neg ht] at h
    obtain ⟨v, h1, h2⟩ := Option.map_eq_some_iff.1 h
    rw [h1, Option.getD_some, h2]
/-- What changes of an inode's chunks are to make of them. -/
def Real (l : List It) (cs : List Ch) (ino : Int) (R : Nat → Prop) (T : Nat → Option (List UInt8)) : Prop :=
  (∀ c ∈ cs, ∃ j, R j ∧ ck c = kc ino j ∧ (if c.f1 = true then some c.f2.data.toList else none) = T j) ∧
  (∀ j, R j → (∃ c ∈ cs, ck c = kc ino j) ∨ lk l (kc ino j) = T j)
theorem Real.done {ino : Int} (hi : 0 < ino ∧ ino < 4294967296) {R : Nat → Prop} (hR : ∀ j, R j → j < 512) {T : Nat → Option (List UInt8)} : ∀ (cs : List Ch) (l : List It), okL l = true → okC cs = true → Real l cs ino R T →
    (∀ j, R j → lk (apl l cs) (kc ino j) = T j) ∧ ∀ k, (∀ j, R j → kc ino j ≠ k) → look (apl l cs) k = look l k
  | [], l, _, _, h => ⟨fun j hj => by
      rcases h.2 j hj with ⟨c, hc, _⟩ | h
      · cases hc
      · exact h, fun _ _ => rfl⟩
  | c :: cs, l, hl, hc, h => by
    unfold okC at hc
    rw [List.all_cons, Bool.and_eq_true] at hc
    have ha := ((okL_iff l).1 hl).2
    obtain ⟨j0, hj0, hk0, ht0⟩ := h.1 c (List.mem_cons_self ..)
    have hr : Real (put l c) cs ino R T := by
      refine ⟨fun d hd => h.1 d (List.mem_cons_of_mem _ hd), fun j hj => ?_⟩
      by_cases he : j = j0
      · subst he
        refine .inr ?_
        unfold lk
        rw [look_put ha, if_pos hk0, ← ht0]
        cases c.f1 <;> rfl
      · have hne : ¬ ck c = kc ino j := fun e => he (kc_inj hi hi (hR j hj) (hR j0 hj0) (e.symm.trans hk0)).2
        rcases h.2 j hj with ⟨d, hd, hdk⟩ | h2
        · rcases List.mem_cons.1 hd with rfl | hd
          · exact absurd hdk hne
          · exact .inl ⟨d, hd, hdk⟩
        · refine .inr ?_
          unfold lk at h2 ⊢
          rw [look_put ha, if_neg hne, h2]
    obtain ⟨h1, h2⟩ := Real.done hi hR cs (put l c) (put_ok hl hc.1) hc.2 hr
    refine ⟨h1, fun k hk => (h2 k hk).trans ?_⟩
    rw [look_put ha, if_neg (fun e => hk j0 hj0 (hk0.symm.trans e))]
theorem keepS_real (l : List It) (ino : Int) (js : List Nat) (t : Nat → ByteArray) : Real l (js.flatMap fun j => keepS l ino j (t j)) ino (· ∈ js) (fun j => opt (t j)) := by
  refine ⟨fun c hc => ?_, fun j hj => ?_⟩
  · obtain ⟨j, hj, hc⟩ := List.mem_flatMap.1 hc
    unfold keepS at hc
    split at hc
    · cases hc
    · obtain rfl := List.mem_singleton.1 hc
      refine ⟨j, hj, ba_toList _, ?_⟩
      unfold opt
      dsimp only
      generalize (t j).data.toList = tl
      cases tl <;> simp
  · by_cases h : lk l (kc ino j) = opt (t j)
    · exact .inr h
    · refine .inl ⟨⟨ba (kc ino j), !(t j).data.toList.isEmpty, t j⟩, List.mem_flatMap.2 ⟨j, hj, ?_⟩, ba_toList _⟩
      unfold keepS
      rw [if_neg h]
      exact List.mem_singleton.2 rfl
theorem keepS_ok {l : List It} {ino : Int} (hi : 0 < ino) {j : Nat} (hj : j < 512) {t : ByteArray} (ht : t.size ≤ 160) : ∀ c ∈ keepS l ino j t, okc c = true := by
  intro c hc
  unfold keepS at hc
  split at hc
  · cases hc
  · obtain rfl := List.mem_singleton.1 hc
    have h := kc_len (c := j) hi hj
    unfold okc okK
    simp only [ba_toList, ba_size, Bool.and_eq_true, decide_eq_true_eq, Bool.or_eq_true]
    refine ⟨⟨⟨fun e => by rw [e] at h; simp at h, h.2⟩, ht⟩, ?_⟩
    rw [ByteArray.toList_eq]
    cases t.data.toList <;> simp
theorem trimL_len (l : List UInt8) : (trimL l).length ≤ l.length := by
  unfold trimL
  rw [List.length_reverse]
  exact Nat.le_trans (List.Sublist.length_le (List.dropWhile_sublist _)) (by rw [List.length_reverse]; exact Nat.le_refl _)
theorem trimL_get (l : List UInt8) (i : Nat) : (trimL l).getD i 0 = l.getD i 0 := by
  have key : ∀ r : List UInt8, ∀ i, (r.reverse.dropWhile (· == 0)).reverse.getD i 0 = r.getD i 0 := by
    intro r
    induction h : r.reverse generalizing r with
    | nil =>
      intro i
      have : r = [] := List.reverse_eq_nil_iff.1 h
      subst this
      rfl
    | cons a s ih =>
      intro i
      have hr : r = s.reverse ++ [a] := by rw [← List.reverse_reverse r, h, List.reverse_cons]
      by_cases h0 : a = 0
      · subst h0
        rw [List.dropWhile_cons, if_pos (by rfl)]
        rw [ih s.reverse (by rw [List.reverse_reverse]) i, hr]
        simp only [List.getD_eq_getElem?_getD]
        rcases Nat.lt_trichotomy i s.reverse.length with hi | hi | hi
        · rw [List.getElem?_append_left hi]
        · rw [List.getElem?_append_right (by omega), List.getElem?_eq_none (by omega), hi, Nat.sub_self]
          rfl
        · rw [List.length_reverse] at hi
          rw [List.getElem?_eq_none (by rw [List.length_reverse]; omega), List.getElem?_eq_none (by simp; omega)]
      · rw [List.dropWhile_cons, if_neg (by simpa using h0), ← h, List.reverse_reverse]
  exact key l i
theorem trimB_get (s : ByteArray) (i : Nat) : (trimB s).data.toList.getD i 0 = s.data.toList.getD i 0 := by
  unfold trimB
  rw [show (⟨(trimL s.data.toList).toArray⟩ : ByteArray).data.toList = trimL s.data.toList from rfl]
  exact trimL_get _ _
theorem trimB_size (s : ByteArray) : (trimB s).size ≤ s.size := by
  unfold trimB
  have := trimL_len s.data.toList
  have e1 : (⟨(trimL s.data.toList).toArray⟩ : ByteArray).size = (trimL s.data.toList).length := rfl
  have e2 : s.size = s.data.toList.length := by rw [Array.length_toList]; rfl
  omega
end Go.Proofs.YtnngbhdofgodiaaGreatDoor.Z
end

section
/- What data's inner functions come to. -/
namespace Go.Proofs.YtnngbhdofgodiaaGreatDoor.Z
open Go.RowKit Go.Proofs.YtnngbhdofgodiaaGreatDoorW.PrintWords Go.Proofs.YtnngbhdofgodiaaGreatDoorW.PrintLast Go.Proofs.YtnngbhdofgodiaaGreatDoorW.PrintMore Go.Proofs.YtnngbhdofgodiaaGreatDoor.PM
set_option linter.unusedVariables false
set_option linter.unusedSimpArgs false
theorem open1_f (x : It) (hs : x.f0.size ≤ 9223372036854775807) : Ev (fun k => data_open_1.f k x.f0 x.f1) (!okP (key x)) := by
  unfold data_open_1.f
  refine Ev.bind (parse_f x.f0 hs) (Ev.const ?_)
  unfold baK okP key
  rw [ByteArray.toList_eq]
  rfl
theorem idx_l0 (l : List It) (hs : ∀ x ∈ l, x.f0.size ≤ 9223372036854775807) (hl : l.length ≤ 4398046511104) : ∀ d i : Nat, l.length = i + d → (∀ x ∈ l.take i, okP (key x) = true) →
    ∃ r : Int, Ev (fun k => slices_IndexFunc_api_Item_api_Item_fn30.l0 k l (l.length : Int) (i : Int)) r ∧ ((r = -1 ∧ ∀ x ∈ l, okP (key x) = true) ∨ ∃ j : Nat, r = (j : Int) ∧ (∃ h : j < l.length, okP (key (l[j]'h)) = false) ∧ ∀ x ∈ l.take j, okP (key x) = true) := by
  intro d
  induction d with
  | zero =>
    intro i hi hk
    rw [List.take_of_length_le (by omega)] at hk
    refine ⟨-1, ?_, .inl ⟨rfl, hk⟩⟩
    exact Ev.step (fun k => by rw [slices_IndexFunc_api_Item_api_Item_fn30.l0]) (Ev.ifn (by omega) (Ev.const rfl))
  | succ d ih =>
    intro i hi hk
    have hlt : i < l.length := by omega
    have ho := open1_f l[i] (hs _ (List.getElem_mem hlt))
    cases hb : okP (key l[i]) with
    | false =>
      rw [hb] at ho
      refine ⟨(i : Int), ?_, .inr ⟨i, rfl, ⟨hlt, hb⟩, hk⟩⟩
      refine Ev.step (fun k => by rw [slices_IndexFunc_api_Item_api_Item_fn30.l0]) (Ev.ifp (by omega) (Ev.ifp (by omega) (Ev.ifp (by omega) ?_)))
      rw [rd_get l i hlt]
      exact Ev.bind ho (Ev.ifp rfl (Ev.const rfl))
    | true =>
      rw [hb] at ho
      obtain ⟨r, h1, h2⟩ := ih (i + 1) (by omega) (fun x hx => by
        rw [List.take_succ_eq_append_getElem hlt] at hx
        rcases List.mem_append.1 hx with hx | hx
        · exact hk x hx
        · rw [List.mem_singleton.1 hx]; exact hb)
      refine ⟨r, ?_, h2⟩
      refine Ev.step (fun k => by rw [slices_IndexFunc_api_Item_api_Item_fn30.l0]) (Ev.ifp (by omega) (Ev.ifp (by omega) (Ev.ifp (by omega) ?_)))
      rw [rd_get l i hlt]
      refine Ev.bind ho (Ev.ifn (by decide) ?_)
      rw [w64 (by omega) (by omega)]
      exact h1
theorem delL_f : ∀ (d : Nat) (L : List It) (i j : Nat), L.length = j + d → i ≤ j → (∀ x ∈ L, x.f0.size ≤ 9223372036854775807) →
    Ev (fun k => delL k d L (i : Int) (j : Int)) (L.take i ++ (L.drop j).filter (fun x => okP (key x))) := by
  intro d
  induction d with
  | zero =>
    intro L i j hj hij hs
    refine Ev.congr (fun k => by rw [delL]) (Ev.const ?_)
    rw [List.drop_of_length_le (by omega), Int.toNat_natCast]
    simp
  | succ d ih =>
    intro L i j hj hij hs
    have hlt : j < L.length := by omega
    have ho := open1_f L[j] (hs _ (List.getElem_mem hlt))
    refine Ev.congr (fun k => by rw [delL]) ?_
    rw [rd_get L j hlt]
    refine Ev.bind ho ?_
    rw [List.drop_eq_getElem_cons hlt, show (j : Int) + 1 = ((j + 1 : Nat) : Int) by omega, show (i : Int) + 1 = ((i + 1 : Nat) : Int) by omega]
    cases hb : okP (key L[j]) with
    | false =>
      rw [List.filter_cons_of_neg (p := fun x => okP (key x)) (by rw [hb]; decide)]
      exact Ev.ifp rfl (ih L i (j + 1) (by omega) (by omega) hs)
    | true =>
      rw [List.filter_cons_of_pos (p := fun x => okP (key x)) hb, Int.toNat_natCast]
      have hi : i < L.length := by omega
      have e1 : (L.set i L[j]).take (i + 1) = L.take i ++ [L[j]] := by
        rw [List.set_eq_take_append_cons_drop, if_pos hi, List.take_append, List.length_take, Nat.min_eq_left (by omega), List.take_of_length_le (by rw [List.length_take]; omega), show i + 1 - i = 1 by omega]
        rfl
      have e2 : (L.set i L[j]).drop (j + 1) = L.drop (j + 1) := List.drop_set_of_lt (by omega)
      refine Ev.ifn (by decide) (Ev.val (ih (L.set i L[j]) (i + 1) (j + 1) (by rw [List.length_set]; omega) (by omega) (fun x hx => ?_)) ?_)
      · rcases List.mem_or_eq_of_mem_set hx with hx | rfl
        · exact hs x hx
        · exact hs _ (List.getElem_mem hlt)
      · rw [e1, e2, List.append_assoc]
        rfl
theorem delF_f (l : List It) (hs : ∀ x ∈ l, x.f0.size ≤ 9223372036854775807) (hl : l.length ≤ 4398046511104) : Ev (fun k => delF k l) (l.filter (fun x => okP (key x))) := by
  unfold delF slices_IndexFunc_api_Item_api_Item_fn30.f
  obtain ⟨r, h1, h2⟩ := idx_l0 l hs hl l.length 0 (by omega) (by simp)
  refine Ev.bind h1 ?_
  rcases h2 with ⟨rfl, h2⟩ | ⟨j, rfl, ⟨hj, hb⟩, hk⟩
  · refine Ev.ifp rfl (Ev.const ?_)
    rw [List.filter_eq_self.2 h2]
  · refine Ev.ifn (by omega) (Ev.ifp (by omega) ?_)
    rw [show (j : Int) + 1 = ((j + 1 : Nat) : Int) by omega, Int.toNat_natCast]
    refine Ev.val (delL_f (l.length - (j + 1)) l j (j + 1) (by omega) (by omega) hs) ?_
    conv => rhs; rw [← List.take_append_drop j l]
    rw [List.filter_append, List.filter_eq_self.2 hk, List.drop_eq_getElem_cons hj, List.filter_cons_of_neg (p := fun x => okP (key x)) (by rw [hb]; decide)]
def opnS (l : List It) (ino : Int) : List It × Int := if okL l = true then (own l ino, if ino = 0 then 1 else 0) else ([], 4)
theorem okI_size {l : List It} (h : okL l = true) {x : It} (hx : x ∈ l) : x.f0.size ≤ 48 ∧ x.f1.size ≤ 160 := by
  have h1 := ((okL_iff l).1 h).1 x hx
  unfold okI okK at h1
  simp only [Bool.and_eq_true, decide_eq_true_eq] at h1
  exact ⟨h1.1.2, h1.2⟩
theorem openF_f (l : List It) (hl : l.length ≤ 4398046511104) {ino : Int} (hi : 0 ≤ ino ∧ ino < 4294967296) : Ev (fun k => openF k l ino) (opnS l ino) := by
  unfold openF
  refine Ev.bind (prefix_f 3 ino (by decide) hi) (Ev.bind (itUnder l hl _) ?_)
  unfold underS opnS
  rw [ba_toList]
  by_cases h : okL l = true
  · rw [if_pos h, if_pos h]
    refine Ev.bind (delF_f _ (fun x hx => by have := (okI_size h (List.mem_filter.1 hx).1).1; omega) (Nat.le_trans (List.length_filter_le ..) hl)) (Ev.const ?_)
    by_cases h0 : ino = 0
    · rw [if_pos ⟨rfl, h0⟩, if_pos h0]
      rfl
    · rw [if_neg (fun h => h0 h.2), if_neg h0]
      rfl
  · rw [if_neg h, if_neg h]
    exact Ev.bind (delF_f [] (by simp) (by simp)) (Ev.const rfl)
theorem keyF_f {ino : Int} (hi : 0 < ino ∧ ino < 4294967296) {c : Nat} (hc : c < 512) : Ev (fun k => keyF k ino (c : Int)) (ba (kc ino c)) := by
  unfold keyF
  rw [show (c : Int) % 4294967296 = (c : Int) by omega]
  refine Ev.bind (key_f 3 ino ⟨#[]⟩ (c : Int) (by decide) ⟨by omega, hi.2⟩ (by omega)) (Ev.const ?_)
  unfold keyS
  rw [show (⟨#[]⟩ : ByteArray).data.toList = [] from rfl, if_pos (kc_right hi.1 hc)]
  rfl
theorem ksearch_l0 {l : List It} (ha : Asc l) (hl : l.length ≤ 4398046511104) (a : ByteArray) : ∀ d i j : Nat, j - i ≤ d → i ≤ (lo l a.toList).length → (lo l a.toList).length ≤ j → j ≤ l.length →
    Ev (fun k => slices_BinarySearchFunc_api_Item_api_Item_string_fn47.l0 k l a (l.length : Int) (i : Int) (j : Int)) (((lo l a.toList).length : Int), fnd l a.toList) := by
  have endd : ∀ i : Nat, i = (lo l a.toList).length → ∀ j : Nat, ¬ ((i : Int) < (j : Int)) → Ev (fun k => slices_BinarySearchFunc_api_Item_api_Item_string_fn47.l0 k l a (l.length : Int) (i : Int) (j : Int)) (((lo l a.toList).length : Int), fnd l a.toList) := by
    intro i hi j hj
    refine Ev.step (fun k => by rw [slices_BinarySearchFunc_api_Item_api_Item_string_fn47.l0]) (Ev.ifn hj ?_)
    have hu := up_drop l a.toList
    rw [← hi] at hu
    rcases Nat.lt_or_ge i l.length with hlt | hge
    · refine Ev.ifp (by omega) (Ev.ifp (by omega) (Ev.ifp (by omega) ?_))
      refine Ev.bindc (show data_file_kept_1.f _ _ _ = some _ by unfold data_file_kept_1.f; rw [compare_f]; rfl) (Ev.const ?_)
      rw [rd_get l i hlt, cmpS_eq, ← hi]
      unfold fnd
      rw [hu, List.drop_eq_getElem_cons hlt]
    · refine Ev.ifn (by omega) (Ev.const ?_)
      rw [← hi]
      unfold fnd
      rw [hu, List.drop_of_length_le hge]
  intro d
  induction d with
  | zero =>
    intro i j hd h1 h2 h3
    exact endd i (by omega) j (by omega)
  | succ d ih =>
    intro i j hd h1 h2 h3
    by_cases hij : i < j
    · refine Ev.step (fun k => by rw [slices_BinarySearchFunc_api_Item_api_Item_string_fn47.l0]) (Ev.ifp (by omega) ?_)
      have hm : wrap64 ((IntKind.u64.wrap (wrap64 ((i : Int) + (j : Int)))) / 2) = (((i + j) / 2 : Nat) : Int) := by
        rw [w64 (i := (i : Int) + (j : Int)) (by omega) (by omega), iu64w (by omega) (by omega), w64 (by omega) (by omega)]; omega
      rw [hm]
      obtain ⟨h, hh⟩ : ∃ h, h = (i + j) / 2 := ⟨_, rfl⟩
      have hh1 : i ≤ h := by omega
      have hh2 : h < j := by omega
      rw [← hh]
      have hlt : h < l.length := by omega
      refine Ev.ifp (by omega) (Ev.ifp (by omega) ?_)
      refine Ev.bindc (show data_file_kept_1.f _ _ _ = some _ by unfold data_file_kept_1.f; rw [compare_f]; rfl) ?_
      rw [rd_get l h hlt]
      have hg := lo_get ha a.toList h hlt
      by_cases hb : Op.bytesLess (key l[h]) a.toList = true
      · refine Ev.ifp ((cmpS_lt _ _).2 hb) ?_
        have e : wrap64 ((h : Int) + 1) = ((h + 1 : Nat) : Int) := by rw [w64 (by omega) (by omega)]; omega
        rw [e]
        exact ih (h + 1) j (by omega) (by have := hg.1 hb; omega) h2 h3
      · refine Ev.ifn (fun hc => hb ((cmpS_lt _ _).1 hc)) ?_
        refine ih i h (by omega) h1 ?_ (by omega)
        rcases Nat.lt_or_ge h (lo l a.toList).length with hc | hc
        · exact absurd (hg.2 hc) hb
        · exact hc
    · exact endd i (by omega) j (by omega)
theorem keptF_f {l : List It} (ha : Asc l) {ino : Int} (hi : 0 < ino ∧ ino < 4294967296) {c : Nat} (hc : c < 512) : Ev (fun k => keptF k ino (own l ino) (c : Int)) (vl l ino c, (look l (kc ino c)).isSome) := by
  unfold keptF slices_BinarySearchFunc_api_Item_api_Item_string_fn47.f
  have hlen := own_len ha hi
  have hao := own_asc ha ino
  have hlo := lo_le (own l ino) (kc ino c)
  refine Ev.bind (keyF_f hi hc) (Ev.bind (ksearch_l0 hao (by omega) (ba (kc ino c)) (own l ino).length 0 (own l ino).length (by omega) (by omega) (lo_le _ _) (Nat.le_refl _)) ?_)
  rw [ba_toList]
  unfold vl
  rw [← own_look hi l hc]
  cases hf : fnd (own l ino) (kc ino c) with
  | true =>
    obtain ⟨h, hk, _⟩ := at_fnd hao hf
    refine Ev.ifp rfl (Ev.ifp ⟨by simp only; omega, by simp only; omega⟩ (Ev.const ?_))
    rw [look_fnd hao hf h]
    simp only
    rw [rd_get _ _ h]
    rfl
  | false =>
    refine Ev.ifn (by simp) (Ev.const ?_)
    rw [look_not hao hf]
    rfl
theorem bytesF_f {l : List It} (ha : Asc l) {ino : Int} (hi : 0 < ino ∧ ino < 4294967296) {c : Nat} (hc : c < 512) : Ev (fun k => bytesF k ino (own l ino) (c : Int)) (chunkF (byteD l ino) c) := by
  unfold bytesF
  refine Ev.bind (keptF_f ha hi hc) (Ev.const ?_)
  rw [padL_chunk]
theorem keepF_f {l : List It} (ha : Asc l) {ino : Int} (hi : 0 < ino ∧ ino < 4294967296) {c : Nat} (hc : c < 512) (b : ByteArray) (hb : b.size ≤ 9223372036854775807) : Ev (fun k => keepF k ino (own l ino) (c : Int) b) (keepS l ino c (trimB b)) := by
  unfold keepF
  refine Ev.bindc (show strings_TrimRight.f b ⟨#[0]⟩ = some (trimB b) from if_pos ⟨rfl, hb⟩) (Ev.bind (keptF_f ha hi hc) ?_)
  unfold keepS
  rw [ByteArray.toList_eq, ByteArray.toList_eq]
  have hiff : ((look l (kc ino c)).isSome = (!(trimB b).data.toList.isEmpty) ∧ (vl l ino c).data.toList = (trimB b).data.toList) ↔ lk l (kc ino c) = opt (trimB b) := by
    unfold vl lk opt
    generalize (trimB b).data.toList = t
    cases look l (kc ino c) with
    | none => cases t <;> simp
    | some v => cases t <;> simp
  by_cases h : lk l (kc ino c) = opt (trimB b)
  · rw [if_pos h]
    exact Ev.ifp (hiff.2 h) (Ev.const rfl)
  · rw [if_neg h]
    exact Ev.ifn (fun h' => h (hiff.1 h')) (Ev.bind (keyF_f hi hc) (Ev.const rfl))
end Go.Proofs.YtnngbhdofgodiaaGreatDoor.Z
end
