/- This session's own texts, laid together (a part that several claims share). -/
import Derived.Test.YtfkofbabeghgkaaGreatMB1
import Derived.Test.YtfkofbabeghgkaaGreatProg
import Derived.Laws.Strings
import Derived.StillTailTactics
import Derived.Laws.CopyOwn
open Go.RowKit Go.Proofs.YtfkofbabeghgkaaGreatW.PrintWords Go.Proofs.YtfkofbabeghgkaaGreatW.PrintLast Go.Proofs.YtfkofbabeghgkaaGreatW.PrintMore
set_option linter.unusedVariables false
set_option linter.unusedSimpArgs false
section
namespace Go.Proofs.YtfkofbabeghgkaaGreat.Z
attribute [local go_sem] max2_int min2_int max_two min_two max_three min_three max_four min_four   -- for this text's walks alone
def inode_Parse.l0 : Nat → ByteArray → Int → Int → Int → Int → Int → Int → Int → Int → Int → Int → Int → ByteArray → Int → Option (Int × Int × ByteArray × Int × Int)
 | 0, _, _, _, _, _, _, _, _, _, _, _, _, _, _ => none
 | k + 1, x0, x6, x125000, x125001, x125002, x125003, x125004, x125005, x125006, x125007, x126000, x126001, x126002, x126003 => if x6 < 5 then ((inode_letters_letter.f x125000 x125001 x125002 x125003 x125004 x125005 x125006 x125007 x6).bind fun bt126 => (if 0 < (x0.size : Int) then (if bt126.1 = (bt x0 0) then (inode_Parse.l0 k x0 ((x6 + 1) % 256) bt126.2.1 bt126.2.2.1 bt126.2.2.2.1 bt126.2.2.2.2.1 bt126.2.2.2.2.2.1 bt126.2.2.2.2.2.2.1 bt126.2.2.2.2.2.2.2.1 bt126.2.2.2.2.2.2.2.2 x6 x126001 x126002 x126003) else (inode_Parse.l0 k x0 ((x6 + 1) % 256) bt126.2.1 bt126.2.2.1 bt126.2.2.2.1 bt126.2.2.2.2.1 bt126.2.2.2.2.2.1 bt126.2.2.2.2.2.2.1 bt126.2.2.2.2.2.2.2.1 bt126.2.2.2.2.2.2.2.2 x126000 x126001 x126002 x126003)) else (none))) else (if 1 ≤ (x0.size : Int) then ((inode_taker_number.f k (x0.extract 1 x0.size) false 4).bind fun bt136 => (if x126000 = 3 then ((inode_taker_number.f k bt136.2.1 bt136.2.2 4).bind fun bt139 => ((inode_Key.f k x126000 ((bt136.1) % 4294967296) x126002 ((bt139.1) % 4294967296)).bind fun bt142 => (if bt139.2.2 = true then (some (0, 0, (⟨#[]⟩ : ByteArray), 0, 4)) else (if bt142.2 = 0 then (if bt142.1.toList = x0.toList then (some (x126000, (bt136.1) % 4294967296, x126002, (bt139.1) % 4294967296, 0)) else (some (0, 0, (⟨#[]⟩ : ByteArray), 0, 4))) else (some (0, 0, (⟨#[]⟩ : ByteArray), 0, 4)))))) else ((inode_Key.f k x126000 ((bt136.1) % 4294967296) bt136.2.1 x126003).bind fun bt144 => (if bt136.2.2 = true then (some (0, 0, (⟨#[]⟩ : ByteArray), 0, 4)) else (if bt144.2 = 0 then (if bt144.1.toList = x0.toList then (some (x126000, (bt136.1) % 4294967296, bt136.2.1, x126003, 0)) else (some (0, 0, (⟨#[]⟩ : ByteArray), 0, 4))) else (some (0, 0, (⟨#[]⟩ : ByteArray), 0, 4))))))) else (none))
def inode_Parse.f (k : Nat) (a0 : ByteArray) : Option (Int × Int × ByteArray × Int × Int) := if (a0.size : Int) < 5 then (some (0, 0, (⟨#[]⟩ : ByteArray), 0, 4)) else (inode_Parse.l0 k a0 1 0 0 0 0 0 0 0 0 0 0 (⟨#[]⟩ : ByteArray) 0)
theorem inode_Parse.mono_l : ∀ k, (∀ y0 y1 y2 y3 y4 y5 y6 y7 y8 y9 y10 y11 y12 y13, LeO (inode_Parse.l0 k y0 y1 y2 y3 y4 y5 y6 y7 y8 y9 y10 y11 y12 y13) (inode_Parse.l0 (k + 1) y0 y1 y2 y3 y4 y5 y6 y7 y8 y9 y10 y11 y12 y13))
 | 0 => fun _ _ _ _ _ _ _ _ _ _ _ _ _ _ r h => by simp [inode_Parse.l0] at h
 | k + 1 => by
  have ih0 := inode_Parse.mono_l k
  ·intro y0 y1 y2 y3 y4 y5 y6 y7 y8 y9 y10 y11 y12 y13
   unfold inode_Parse.l0
   repeat' first
   | (with_reducible exact ih0 _ _ _ _ _ _ _ _ _ _ _ _ _ _)
   | (with_reducible exact inode_Key.mono _ _ _ _ _)
   | (with_reducible exact inode_taker_number.mono _ _ _ _)
   | (with_reducible exact LeO.refl _)
   | (with_reducible exact LeO.none _)
   | (with_reducible refine LeO.ite ?_ ?_)
   | (with_reducible refine LeO.bind ?_ (fun _ => ?_))
   | exact ih0 _ _ _ _ _ _ _ _ _ _ _ _ _ _
   | exact inode_Key.mono _ _ _ _ _
   | exact inode_taker_number.mono _ _ _ _
   | exact LeO.none _
   | refine LeO.ite ?_ ?_
   | refine LeO.bind ?_ (fun _ => ?_)
theorem inode_Parse.mono : ∀ a0 k, LeO (inode_Parse.f k a0) (inode_Parse.f (k + 1) a0) := by
 intro a0 k
 have ih0 := inode_Parse.mono_l k
 unfold inode_Parse.f
 repeat' first
   | (with_reducible exact ih0 _ _ _ _ _ _ _ _ _ _ _ _ _ _)
   | (with_reducible exact inode_Key.mono _ _ _ _ _)
   | (with_reducible exact inode_taker_number.mono _ _ _ _)
   | (with_reducible exact LeO.refl _)
   | (with_reducible exact LeO.none _)
   | (with_reducible refine LeO.ite ?_ ?_)
   | (with_reducible refine LeO.bind ?_ (fun _ => ?_))
   | exact ih0 _ _ _ _ _ _ _ _ _ _ _ _ _ _
   | exact inode_Key.mono _ _ _ _ _
   | exact inode_taker_number.mono _ _ _ _
   | exact LeO.none _
   | refine LeO.ite ?_ ?_
   | refine LeO.bind ?_ (fun _ => ?_)
set_option maxHeartbeats 8000000 in
set_option maxRecDepth 100000 in
theorem inode_Parse.calls (k : Nat) (a0 : ByteArray) (r1 : Int) (r2 : Int) (r3 : ByteArray) (r4 : Int) (r5 : Int) (w : World) (h : inode_Parse.f k a0 = some (r1, r2, r3, r4, r5)) :
  Calls Tryz.prog 130 #[.string a0] w fun e w' => e = .returned (.tuple #[.agg #[.int .u8 r1, .int .u32 r2, .string r3, .int .u32 r4], .int .i64 r5]) ∧ Below w.heap.size w w' := by
 have hu106 := Tryz.underlying106
 have hu189 := Tryz.underlying189
 have hu206 := Tryz.underlying206
 have HB := ak_ (Below.refl w.heap.size w)
 have H : (if (a0.size : Int) < 5 then (some (0, 0, (⟨#[]⟩ : ByteArray), 0, 4)) else (inode_Parse.l0 k a0 1 0 0 0 0 0 0 0 0 0 0 (⟨#[]⟩ : ByteArray) 0)) = some (r1, r2, r3, r4, r5) := h
 clear h
 by_cases c2 : (a0.size : Int) < 5
 ·rw [if_pos c2] at H
  have c2b0 : decide ((a0.size : Int) < 5) = true := decide_eq_true c2
  have c2b1 : decide (a0.size < 5) = true := decide_eq_true (by omega)
  clear c2
  simp only [Option.some.injEq, Prod.mk.injEq] at H
  obtain ⟨rfl, rfl, rfl, rfl, rfl⟩ := H
  go_enter Tryz.func130, Tryz.ntmps130
  go_wp2_with (first | ((with_reducible refine gate_dst (N := 2) rfl ?_); refine bx_ (N := 2) (cs := #[.int .u8 0, .int .u32 0, .string (⟨#[]⟩ : ByteArray), .int .u32 0]) (t := 106) ?_; intro gb123 hg w3 hbox hb; have BK123 := ak_ (hbox); have GW123 := ge_ hg; have GE123 := ge_ hg; replace HB := hb_ hb; clear hb hbox hg; obtain ⟨hcz4_0, hcz4_1, hcz4_2, hcz4_3⟩ := cl4_ BK123; obtain ⟨hfz4_0, hfz4_1, hfz4_2, hfz4_3⟩ := fz4_ BK123))
  refine bodyPost_ret (results_ct rfl _ _ gb123 106 #[.int .u8 0, .int .u32 0, .string (⟨#[]⟩ : ByteArray), .int .u32 0] (0, 0) _ rfl (bs_) Tryz.underlying106 rfl (by kernel_rfl)) rfl ?_
  exact ⟨by first | rfl | (simp [errW_none, errW_some] <;> rfl) | (simp [*, errW_none, errW_some] <;> rfl), bel_⟩
 rw [if_neg c2] at H
 have c2b0 : decide ((a0.size : Int) < 5) = false := decide_eq_false c2
 have c2b1 : decide (a0.size < 5) = false := decide_eq_false (by omega)
 clear c2
 have H' := ak_ H
 clear H
 go_enter Tryz.func130, Tryz.ntmps130
 go_wp2_with (first | ((with_reducible refine gate_dst (N := 2) rfl ?_); refine bx_ (N := 2) (cs := #[.int .u8 0, .int .u32 0, .string (⟨#[]⟩ : ByteArray), .int .u32 0]) (t := 106) ?_; intro gb123 hg w5 hbox hb; have BK123 := ak_ (hbox); have GW123 := ge_ hg; have GE123 := ge_ hg; replace HB := hb_ hb; clear hb hbox hg) | ((with_reducible refine gate_dst (N := 4) rfl ?_); refine bx_ (N := 4) (cs := #[.int .u32 0, .int .i32 0, .int .u32 0, .int .u8 0, .int .u8 0, .int .u8 0, .int .u8 0, .int .u8 0]) (t := 189) ?_; intro gb124 hg w6 hbox hb; have BK124 := ak_ (hbox); have GW124 := ge_ hg; have GE124 := ge_ hg; have NB123_124 := nl_ BK123 hg; have NB124_123 := ng_ BK123 hg; replace BK123 := kb_ BK123 hb; replace HB := hb_ hb; clear hb hbox hg) | ((with_reducible refine gate_dst (N := 5) rfl ?_); refine bx_ (N := 5) (cs := #[.int .u8 0, .int .u32 0, .string (⟨#[]⟩ : ByteArray), .int .u32 0]) (t := 106) ?_; intro gb125 hg w7 hbox hb; have BK125 := ak_ (hbox); have GW125 := ge_ hg; have GE125 := ge_ hg; have NB123_125 := nl_ BK123 hg; have NB125_123 := ng_ BK123 hg; have NB124_125 := nl_ BK124 hg; have NB125_124 := ng_ BK124 hg; replace BK123 := kb_ BK123 hb; replace BK124 := kb_ BK124 hb; replace HB := hb_ hb; clear hb hbox hg; have hnb8 := NB125_123.out; have hnc8 := NB123_125.out; have hnb9 := NB125_124.out; have hnc9 := NB124_125.out; obtain ⟨hcz10_0, hcz10_1, hcz10_2, hcz10_3⟩ := cl4_ BK125; obtain ⟨hfz10_0, hfz10_1, hfz10_2, hfz10_3⟩ := fz4_ BK125))
 go_loopg [6] k (fun kq v6 w' => ∃ (x6_1 : Int) (x125000_1 : Int) (x125001_1 : Int) (x125002_1 : Int) (x125003_1 : Int) (x125004_1 : Int) (x125005_1 : Int) (x125006_1 : Int) (x125007_1 : Int) (x126000_1 : Int), v6 = .int .u8 x6_1 ∧ Aside0 (inode_Parse.l0 kq a0 x6_1 x125000_1 x125001_1 x125002_1 x125003_1 x125004_1 x125005_1 x125006_1 x125007_1 x126000_1 0 (⟨#[]⟩ : ByteArray) 0 = some (r1, r2, r3, r4, r5)) ∧ Aside0 (kq ≤ k) ∧ Aside0 (w'.heap[gb123]? = some (.cells #[.int .u8 0, .int .u32 0, .string (⟨#[]⟩ : ByteArray), .int .u32 0] 106 (0, 0))) ∧ Aside0 (w'.heap[gb124]? = some (.cells #[.int .u32 x125000_1, .int .i32 x125001_1, .int .u32 x125002_1, .int .u8 x125003_1, .int .u8 x125004_1, .int .u8 x125005_1, .int .u8 x125006_1, .int .u8 x125007_1] 189 (0, 0))) ∧ Aside0 (w'.heap[gb125]? = some (.cells #[.int .u8 x126000_1, .int .u32 0, .string (⟨#[]⟩ : ByteArray), .int .u32 0] 106 (0, 0))) ∧ Aside0 (Below w.heap.size w w'))
 case atStart => exact ⟨(1), (0), (0), (0), (0), (0), (0), (0), (0), (0), (by first | rfl | (simp; done) | (simp [*]; done)), H', ⟨Nat.le_refl _⟩, ⟨bs_⟩, ⟨bs_⟩, ⟨bs_⟩, ⟨bel_⟩⟩
 case round =>
  clear H'
  try clear c1
  try clear c2
  try clear c2b0
  try clear c2b1
  try clear p2
  try clear c8
  try clear c9
  try clear hcz10_0
  try clear hcz10_1
  try clear hcz10_2
  try clear hcz10_3
  try clear hcz4_0
  try clear hcz4_1
  try clear hcz4_2
  try clear hcz4_3
  try clear hfz10_0
  try clear hfz10_1
  try clear hfz10_2
  try clear hfz10_3
  try clear hfz4_0
  try clear hfz4_1
  try clear hfz4_2
  try clear hfz4_3
  obtain ⟨x6_1, x125000_1, x125001_1, x125002_1, x125003_1, x125004_1, x125005_1, x125006_1, x125007_1, x126000_1, rfl, HA, HK1, BK123, BK124, BK125, HB⟩ := hrel
  cases gk with
  | zero => exact absurd HA.out (by simp [inode_Parse.l0])
  | succ k1 =>
   have H := HA.out
   clear HA
   simp only [inode_Parse.l0] at H
   by_cases c11 : x6_1 < 5
   ·rw [if_pos c11] at H
    have c11b0 : decide (x6_1 < 5) = true := decide_eq_true c11
    clear c11
    replace H := Option.bind_eq_some_iff.mp H
    obtain ⟨⟨t126, t127, t128, t129, t130, t131, t132, t133, t134⟩, A120, H⟩ := H
    replace H : (if 0 < (a0.size : Int) then (if t126 = (bt a0 0) then (inode_Parse.l0 k1 a0 ((x6_1 + 1) % 256) t127 t128 t129 t130 t131 t132 t133 t134 x6_1 0 (⟨#[]⟩ : ByteArray) 0) else (inode_Parse.l0 k1 a0 ((x6_1 + 1) % 256) t127 t128 t129 t130 t131 t132 t133 t134 x126000_1 0 (⟨#[]⟩ : ByteArray) 0)) else (none)) = some (r1, r2, r3, r4, r5) := H
    have A12 := ak_ A120
    clear A120
    by_cases c13 : 0 < (a0.size : Int)
    ·rw [if_pos c13] at H
     have c13b0 : decide (0 < (a0.size : Int)) = true := decide_eq_true c13
     have c13b1 : decide (0 < a0.size) = true := decide_eq_true (by omega)
     clear c13
     by_cases c15 : t126 = (bt a0 0)
     ·rw [if_pos c15] at H
      have c15b0 : (t126 == (bt a0 0)) = true := beq_iff_eq.mpr c15
      have c15b1 : (t126 != (bt a0 0)) = false := bne_eq_false_iff_eq.mpr c15
      clear c15
      have H' := ak_ H
      clear H
      try go_wp2
      replace BK123 := ak_ (blk_drew BK123.out)
      replace BK124 := ak_ (blk_drew BK124.out)
      replace BK125 := ak_ (blk_drew BK125.out)
      replace HB := ak_ (below_drew1 HB.out)
      have p14 : 0 ≤ (0 : Int) := (by omega)
      have q14 : 0 < a0.size := (by have : (0 : Int) < (a0.size : Int) := of_decide_eq_true (by first | (with_reducible assumption) | assumption); omega)
      have hx14 : ∀ h : 0 < a0.size, ((a0[0]'h).toNat : Int) = bt a0 0 := bt_at a0 0
      clear p14
      have qi14 : (0 < (a0.size : Int)) = True := eq_true (of_decide_eq_true (by first | (with_reducible assumption) | assumption))
      replace q14 := eq_true q14
      refine start_ (n := 5) (S := fun w' => True) (ds := []) #[false, false, false, false, false] (by kernel_rfl) rfl rfl trivial (fun hHeld => ?_)
      generalize wr.drew = w16 at BK123 BK124 BK125 HB hHeld ⊢
      refine pu_ 0 19 ?_
      refine pu_ 2 21 ?_
      refine take_ (i := 3) (N := some 22) (v := ?_) (a' := ?_) #[true, false, true, true, false] rfl rfl (by kernel_rfl) (fun _ _ _ h => h) (Or.inl ⟨by rfl, ?_⟩) hHeld ?_ ?_
      rotate_left
      ·intro w' _
       go_simp
       with_reducible rfl
      rotate_left
      ·simp only [Act.put, List.setIfInBounds_toArray, List.set_cons_zero, List.set_cons_succ, i64_w, i32_w]
       rfl
      refine on_ 1 20 (fun K hK => ?_)
      refine goes_ Tryz.func124 (by kernel_rfl) rfl #[.pointer (some ⟨gb124, 0, none⟩), .int .u8 x6_1] (by rfl) rfl rfl (by (try simp only [List.map_toArray, List.map_cons, List.map_nil]); first | done | rfl | (simp only [List.length_drop, List.length_take]; rfl)) ?_
      with_reducible refine (inode_letters_letter.calls gb124 x125000_1 x125001_1 x125002_1 x125003_1 x125004_1 x125005_1 x125006_1 x125007_1 x6_1 t126 t127 t128 t129 t130 t131 t132 t133 t134 w _ ?side1 ?side2 A12.out).mono ?_
      (case side1 => exact ⟨(bk_ BK124), GE124.out⟩)
      (case side2 => repeat (first | (with_reducible first | exact HB.out | apply below_alloc | apply pw_below_drewN | apply below_drew1 | refine below_set ?_ GE123.out | refine below_set ?_ GE124.out | refine below_set ?_ GE125.out) | exact HB.out))
      rintro e w17 ⟨rfl, hi, hb, hk⟩
      refine ⟨_, rfl, ?_⟩
      replace BK123 := ak_ (KeepBut.blk hk (g' := gb123) (o := .cells #[.int .u8 0, .int .u32 0, .string (⟨#[]⟩ : ByteArray), .int .u32 0] 106 (0, 0)) (bk_ BK123) NB123_124.out (by simp))
      replace BK125 := ak_ (KeepBut.blk hk (g' := gb125) (o := .cells #[.int .u8 x126000_1, .int .u32 0, .string (⟨#[]⟩ : ByteArray), .int .u32 0] 106 (0, 0)) (bk_ BK125) NB125_124.out (by simp))
      replace HB := ak_ (hb)
      replace BK124 := ak_ (hi.1)
      (try clear hb)
      (try clear hb2)
      (try clear hk)
      (try clear hi)
      refine hK.out _ _ trivial (fun hHeld => ?_)
      clear hK K
      refine nm_ 20 ?_
      refine pu_ 4 23 ?_
      refine done_ (by kernel_rfl) ?_
      have hnb18 := NB125_123.out
      have hnc18 := NB123_125.out
      have hnb19 := NB125_124.out
      have hnc19 := NB124_125.out
      obtain ⟨hcz20_0, hcz20_1, hcz20_2, hcz20_3⟩ := cl4_ BK125
      obtain ⟨hfz20_0, hfz20_1, hfz20_2, hfz20_3⟩ := fz4_ BK125
      try go_wp2
      go_roundg k1
      case measure => have := HK1.out; omega
      case rel => exact ⟨((x6_1 + 1) % 256), (t127), (t128), (t129), (t130), (t131), (t132), (t133), (t134), (x6_1), (by first | rfl | (simp; done) | (simp [*]; done)), H', ⟨by have := HK1.out; omega⟩, ⟨bs_⟩, ⟨bs_⟩, ⟨bs_⟩, ⟨bel_⟩⟩
     rw [if_neg c15] at H
     have c15b0 : (t126 == (bt a0 0)) = false := beq_eq_false_iff_ne.mpr c15
     have c15b1 : (t126 != (bt a0 0)) = true := bne_iff_ne.mpr c15
     have H' := ak_ H
     clear H
     try go_wp2
     replace BK123 := ak_ (blk_drew BK123.out)
     replace BK124 := ak_ (blk_drew BK124.out)
     replace BK125 := ak_ (blk_drew BK125.out)
     replace HB := ak_ (below_drew1 HB.out)
     have p14 : 0 ≤ (0 : Int) := (by omega)
     have q14 : 0 < a0.size := (by have : (0 : Int) < (a0.size : Int) := of_decide_eq_true (by first | (with_reducible assumption) | assumption); omega)
     have hx14 : ∀ h : 0 < a0.size, ((a0[0]'h).toNat : Int) = bt a0 0 := bt_at a0 0
     clear p14
     have qi14 : (0 < (a0.size : Int)) = True := eq_true (of_decide_eq_true (by first | (with_reducible assumption) | assumption))
     replace q14 := eq_true q14
     refine start_ (n := 5) (S := fun w' => True) (ds := []) #[false, false, false, false, false] (by kernel_rfl) rfl rfl trivial (fun hHeld => ?_)
     generalize wr.drew = w21 at BK123 BK124 BK125 HB hHeld ⊢
     refine pu_ 0 19 ?_
     refine pu_ 2 21 ?_
     refine take_ (i := 3) (N := some 22) (v := ?_) (a' := ?_) #[true, false, true, true, false] rfl rfl (by kernel_rfl) (fun _ _ _ h => h) (Or.inl ⟨by rfl, ?_⟩) hHeld ?_ ?_
     rotate_left
     ·intro w' _
      go_simp
      with_reducible rfl
     rotate_left
     ·simp only [Act.put, List.setIfInBounds_toArray, List.set_cons_zero, List.set_cons_succ, i64_w, i32_w]
      rfl
     refine on_ 1 20 (fun K hK => ?_)
     refine goes_ Tryz.func124 (by kernel_rfl) rfl #[.pointer (some ⟨gb124, 0, none⟩), .int .u8 x6_1] (by rfl) rfl rfl (by (try simp only [List.map_toArray, List.map_cons, List.map_nil]); first | done | rfl | (simp only [List.length_drop, List.length_take]; rfl)) ?_
     with_reducible refine (inode_letters_letter.calls gb124 x125000_1 x125001_1 x125002_1 x125003_1 x125004_1 x125005_1 x125006_1 x125007_1 x6_1 t126 t127 t128 t129 t130 t131 t132 t133 t134 w _ ?side1 ?side2 A12.out).mono ?_
     (case side1 => exact ⟨(bk_ BK124), GE124.out⟩)
     (case side2 => repeat (first | (with_reducible first | exact HB.out | apply below_alloc | apply pw_below_drewN | apply below_drew1 | refine below_set ?_ GE123.out | refine below_set ?_ GE124.out | refine below_set ?_ GE125.out) | exact HB.out))
     rintro e w22 ⟨rfl, hi, hb, hk⟩
     refine ⟨_, rfl, ?_⟩
     replace BK123 := ak_ (KeepBut.blk hk (g' := gb123) (o := .cells #[.int .u8 0, .int .u32 0, .string (⟨#[]⟩ : ByteArray), .int .u32 0] 106 (0, 0)) (bk_ BK123) NB123_124.out (by simp))
     replace BK125 := ak_ (KeepBut.blk hk (g' := gb125) (o := .cells #[.int .u8 x126000_1, .int .u32 0, .string (⟨#[]⟩ : ByteArray), .int .u32 0] 106 (0, 0)) (bk_ BK125) NB125_124.out (by simp))
     replace HB := ak_ (hb)
     replace BK124 := ak_ (hi.1)
     (try clear hb)
     (try clear hb2)
     (try clear hk)
     (try clear hi)
     refine hK.out _ _ trivial (fun hHeld => ?_)
     clear hK K
     refine nm_ 20 ?_
     refine pu_ 4 23 ?_
     refine done_ (by kernel_rfl) ?_
     try go_wp2
     go_roundg k1
     case measure => have := HK1.out; omega
     case rel => exact ⟨((x6_1 + 1) % 256), (t127), (t128), (t129), (t130), (t131), (t132), (t133), (t134), (x126000_1), (by first | rfl | (simp; done) | (simp [*]; done)), H', ⟨by have := HK1.out; omega⟩, ⟨bk_ BK123⟩, ⟨bk_ BK124⟩, ⟨bk_ BK125⟩, ⟨bel_⟩⟩
    rw [if_neg c13] at H
    exact absurd H (by simp)
   rw [if_neg c11] at H
   have c11b0 : decide (x6_1 < 5) = false := decide_eq_false c11
   clear c11
   by_cases c23 : 1 ≤ (a0.size : Int)
   ·rw [if_pos c23] at H
    have c23b0 := eq_true c23
    have c23b1 : decide (1 ≤ (a0.size : Int)) = true := decide_eq_true c23
    clear c23
    replace H := Option.bind_eq_some_iff.mp H
    obtain ⟨⟨t136, t137, t138⟩, A240, H⟩ := H
    replace H : (if x126000_1 = 3 then ((inode_taker_number.f k1 t137 t138 4).bind fun bt139 => ((inode_Key.f k1 x126000_1 ((t136) % 4294967296) (⟨#[]⟩ : ByteArray) ((bt139.1) % 4294967296)).bind fun bt142 => (if bt139.2.2 = true then (some (0, 0, (⟨#[]⟩ : ByteArray), 0, 4)) else (if bt142.2 = 0 then (if bt142.1.toList = a0.toList then (some (x126000_1, (t136) % 4294967296, (⟨#[]⟩ : ByteArray), (bt139.1) % 4294967296, 0)) else (some (0, 0, (⟨#[]⟩ : ByteArray), 0, 4))) else (some (0, 0, (⟨#[]⟩ : ByteArray), 0, 4)))))) else ((inode_Key.f k1 x126000_1 ((t136) % 4294967296) t137 0).bind fun bt144 => (if t138 = true then (some (0, 0, (⟨#[]⟩ : ByteArray), 0, 4)) else (if bt144.2 = 0 then (if bt144.1.toList = a0.toList then (some (x126000_1, (t136) % 4294967296, t137, 0, 0)) else (some (0, 0, (⟨#[]⟩ : ByteArray), 0, 4))) else (some (0, 0, (⟨#[]⟩ : ByteArray), 0, 4)))))) = some (r1, r2, r3, r4, r5) := H
    have A24 := ak_ A240
    clear A240
    by_cases c25 : x126000_1 = 3
    ·rw [if_pos c25] at H
     have c25b0 : (x126000_1 == 3) = true := beq_iff_eq.mpr c25
     have c25b1 : (x126000_1 != 3) = false := bne_eq_false_iff_eq.mpr c25
     clear c25
     replace H := Option.bind_eq_some_iff.mp H
     obtain ⟨⟨t139, t140, t141⟩, A260, H⟩ := H
     replace H : ((inode_Key.f k1 x126000_1 ((t136) % 4294967296) (⟨#[]⟩ : ByteArray) ((t139) % 4294967296)).bind fun bt142 => (if t141 = true then (some (0, 0, (⟨#[]⟩ : ByteArray), 0, 4)) else (if bt142.2 = 0 then (if bt142.1.toList = a0.toList then (some (x126000_1, (t136) % 4294967296, (⟨#[]⟩ : ByteArray), (t139) % 4294967296, 0)) else (some (0, 0, (⟨#[]⟩ : ByteArray), 0, 4))) else (some (0, 0, (⟨#[]⟩ : ByteArray), 0, 4))))) = some (r1, r2, r3, r4, r5) := H
     have A26 := ak_ A260
     clear A260
     replace H := Option.bind_eq_some_iff.mp H
     obtain ⟨⟨t142, t143⟩, A270, H⟩ := H
     replace H : (if t141 = true then (some (0, 0, (⟨#[]⟩ : ByteArray), 0, 4)) else (if t143 = 0 then (if t142.toList = a0.toList then (some (x126000_1, (t136) % 4294967296, (⟨#[]⟩ : ByteArray), (t139) % 4294967296, 0)) else (some (0, 0, (⟨#[]⟩ : ByteArray), 0, 4))) else (some (0, 0, (⟨#[]⟩ : ByteArray), 0, 4)))) = some (r1, r2, r3, r4, r5) := H
     have A27 := ak_ A270
     clear A270
     by_cases c28 : t141 = true
     ·subst c28
      have H1 : (some (0, 0, (⟨#[]⟩ : ByteArray), 0, 4)) = some (r1, r2, r3, r4, r5) := by rw [if_pos rfl] at H; exact H
      clear H
      have H := H1
      clear H1
      simp only [Option.some.injEq, Prod.mk.injEq] at H
      obtain ⟨rfl, rfl, rfl, rfl, rfl⟩ := H
      go_wp2_with (first | ((with_reducible refine gate_dst (N := 29) rfl ?_); refine bx_ (N := 29) (cs := #[.string (a0.extract 1 a0.size), .bool false]) (t := 206) ?_; intro gb135 hg w29 hbox hb; have BK135 := ak_ (hbox); have GW135 := ge_ hg; have GE135 := ge_ hg; have NB123_135 := nl_ BK123 hg; have NB135_123 := ng_ BK123 hg; have NB124_135 := nl_ BK124 hg; have NB135_124 := ng_ BK124 hg; have NB125_135 := nl_ BK125 hg; have NB135_125 := ng_ BK125 hg; replace BK123 := kb_ BK123 hb; replace BK124 := kb_ BK124 hb; replace BK125 := kb_ BK125 hb; replace HB := hb_ hb; clear hb hbox hg) | ((with_reducible refine gate_callee (f := 144) rfl ?_); refine gl_ (some 31) Tryz.func144 #[.pointer (some ⟨gb135, 0, none⟩), .int .i64 4] ?_; (with_reducible refine (inode_taker_number.calls k1 gb135 (a0.extract 1 a0.size) false 4 t136 t137 t138 w _ ?side1 ?side2 A24.out).mono ?_); (case side1 => exact ⟨(bk_ BK135), GE135.out⟩); (case side2 => repeat (first | (with_reducible first | exact HB.out | apply below_alloc | apply pw_below_drewN | apply below_drew1 | refine below_set ?_ GE123.out | refine below_set ?_ GE124.out | refine below_set ?_ GE125.out | refine below_set ?_ GE135.out) | exact HB.out)); rintro e w30 ⟨rfl, hi, hb, hk⟩; refine ⟨_, rfl, ?_⟩; replace BK123 := ak_ (KeepBut.blk hk (g' := gb123) (o := .cells #[.int .u8 0, .int .u32 0, .string (⟨#[]⟩ : ByteArray), .int .u32 0] 106 (0, 0)) (bk_ BK123) NB123_135.out (by simp)); replace BK124 := ak_ (KeepBut.blk hk (g' := gb124) (o := .cells #[.int .u32 x125000_1, .int .i32 x125001_1, .int .u32 x125002_1, .int .u8 x125003_1, .int .u8 x125004_1, .int .u8 x125005_1, .int .u8 x125006_1, .int .u8 x125007_1] 189 (0, 0)) (bk_ BK124) NB124_135.out (by simp)); replace BK125 := ak_ (KeepBut.blk hk (g' := gb125) (o := .cells #[.int .u8 x126000_1, .int .u32 0, .string (⟨#[]⟩ : ByteArray), .int .u32 0] 106 (0, 0)) (bk_ BK125) NB125_135.out (by simp)); replace HB := ak_ (hb); replace BK135 := ak_ (hi.1); (try clear hb); (try clear hb2); (try clear hk); (try clear hi); have hnb31 := NB125_123.out; have hnc31 := NB123_125.out; have hnb32 := NB125_124.out; have hnc32 := NB124_125.out; have hnb33 := NB125_135.out; have hnc33 := NB135_125.out; obtain ⟨hcz34_0, hcz34_1, hcz34_2, hcz34_3⟩ := cl4_ BK125; obtain ⟨hfz34_0, hfz34_1, hfz34_2, hfz34_3⟩ := fz4_ BK125) | ((with_reducible refine gate_callee (f := 144) rfl ?_); refine gl_ (some 38) Tryz.func144 #[.pointer (some ⟨gb135, 0, none⟩), .int .i64 4] ?_; (with_reducible refine (inode_taker_number.calls k1 gb135 t137 t138 4 t139 t140 true w _ ?side1 ?side2 A26.out).mono ?_); (case side1 => exact ⟨(bs_), GE135.out⟩); (case side2 => repeat (first | (with_reducible first | exact HB.out | apply below_alloc | apply pw_below_drewN | apply below_drew1 | refine below_set ?_ GE123.out | refine below_set ?_ GE124.out | refine below_set ?_ GE125.out | refine below_set ?_ GE135.out) | exact HB.out)); rintro e w35 ⟨rfl, hi, hb, hk⟩; refine ⟨_, rfl, ?_⟩; replace BK123 := ak_ (KeepBut.blk hk (g' := gb123) (o := .cells #[.int .u8 0, .int .u32 0, .string (⟨#[]⟩ : ByteArray), .int .u32 0] 106 (0, 0)) (bs_) NB123_135.out (by simp)); replace BK124 := ak_ (KeepBut.blk hk (g' := gb124) (o := .cells #[.int .u32 x125000_1, .int .i32 x125001_1, .int .u32 x125002_1, .int .u8 x125003_1, .int .u8 x125004_1, .int .u8 x125005_1, .int .u8 x125006_1, .int .u8 x125007_1] 189 (0, 0)) (bs_) NB124_135.out (by simp)); replace BK125 := ak_ (KeepBut.blk hk (g' := gb125) (o := .cells #[.int .u8 x126000_1, .int .u32 ((t136) % 4294967296), .string (⟨#[]⟩ : ByteArray), .int .u32 0] 106 (0, 0)) (bs_) NB125_135.out (by simp)); replace HB := ak_ (hb); replace BK135 := ak_ (hi.1); (try clear hb); (try clear hb2); (try clear hk); (try clear hi); obtain ⟨hcz36_0, hcz36_1, hcz36_2, hcz36_3⟩ := cl4_ BK125; obtain ⟨hfz36_0, hfz36_1, hfz36_2, hfz36_3⟩ := fz4_ BK125) | ((with_reducible refine gate_callee (f := 77) rfl ?_); refine gl_ (some 48) Tryz.func77 #[.agg #[.int .u8 x126000_1, .int .u32 ((t136) % 4294967296), .string (⟨#[]⟩ : ByteArray), .int .u32 ((t139) % 4294967296)]] ?_; (with_reducible refine (inode_Key.calls k1 x126000_1 ((t136) % 4294967296) (⟨#[]⟩ : ByteArray) ((t139) % 4294967296) t142 t143 _ A27.out).mono ?_); rintro e w37 ⟨rfl, hb⟩; refine ⟨_, rfl, ?_⟩; replace BK123 := ak_ (blk_below (g := gb123) (o := .cells #[.int .u8 0, .int .u32 0, .string (⟨#[]⟩ : ByteArray), .int .u32 0] 106 (0, 0)) (bs_) hb); replace BK124 := ak_ (blk_below (g := gb124) (o := .cells #[.int .u32 x125000_1, .int .i32 x125001_1, .int .u32 x125002_1, .int .u8 x125003_1, .int .u8 x125004_1, .int .u8 x125005_1, .int .u8 x125006_1, .int .u8 x125007_1] 189 (0, 0)) (bs_) hb); replace BK125 := ak_ (blk_below (g := gb125) (o := .cells #[.int .u8 x126000_1, .int .u32 ((t136) % 4294967296), .string (⟨#[]⟩ : ByteArray), .int .u32 ((t139) % 4294967296)] 106 (0, 0)) (bs_) hb); replace BK135 := ak_ (blk_below (g := gb135) (o := .cells #[.string t140, .bool true] 206 (0, 0)) (bs_) hb); replace HB := hb_ hb; (try clear hb); (try clear hb2); (try clear hk); (try clear hi); have hnb38 := NB135_123.out; have hnc38 := NB123_135.out; have hnb39 := NB135_124.out; have hnc39 := NB124_135.out; obtain ⟨hcz40_0, hcz40_1⟩ := cl2_ BK135; obtain ⟨hfz40_0, hfz40_1⟩ := fz2_ BK135; have hnb41 := NB123_124.out; have hnc41 := NB124_123.out; obtain ⟨hcz42_0, hcz42_1, hcz42_2, hcz42_3⟩ := cl4_ BK123; obtain ⟨hfz42_0, hfz42_1, hfz42_2, hfz42_3⟩ := fz4_ BK123))
      refine bodyPost_ret (results_ct rfl _ _ gb123 106 #[.int .u8 0, .int .u32 0, .string (⟨#[]⟩ : ByteArray), .int .u32 0] (0, 0) _ rfl (bs_) Tryz.underlying106 rfl (by kernel_rfl)) rfl ?_
      exact ⟨by first | rfl | (simp [errW_none, errW_some] <;> rfl) | (simp [*, errW_none, errW_some] <;> rfl), bel_⟩
     replace c28 := Bool.eq_false_iff.mpr c28
     subst c28
     have H1 : (if t143 = 0 then (if t142.toList = a0.toList then (some (x126000_1, (t136) % 4294967296, (⟨#[]⟩ : ByteArray), (t139) % 4294967296, 0)) else (some (0, 0, (⟨#[]⟩ : ByteArray), 0, 4))) else (some (0, 0, (⟨#[]⟩ : ByteArray), 0, 4))) = some (r1, r2, r3, r4, r5) := by rw [if_neg (show ¬ (false = true) by decide)] at H; exact H
     clear H
     have H := H1
     clear H1
     by_cases c43 : t143 = 0
     ·rw [if_pos c43] at H
      have c43b0 : (t143 == 0) = true := beq_iff_eq.mpr c43
      have c43b1 : (t143 != 0) = false := bne_eq_false_iff_eq.mpr c43
      clear c43
      by_cases c44 : t142.toList = a0.toList
      ·rw [if_pos c44] at H
       have c44b0 : (t142.toList == a0.toList) = true := beq_iff_eq.mpr c44
       have c44b1 : (t142.toList != a0.toList) = false := bne_eq_false_iff_eq.mpr c44
       clear c44
       simp only [Option.some.injEq, Prod.mk.injEq] at H
       obtain ⟨rfl, rfl, rfl, rfl, rfl⟩ := H
       go_wp2_with (first | ((with_reducible refine gate_dst (N := 29) rfl ?_); refine bx_ (N := 29) (cs := #[.string (a0.extract 1 a0.size), .bool false]) (t := 206) ?_; intro gb135 hg w45 hbox hb; have BK135 := ak_ (hbox); have GW135 := ge_ hg; have GE135 := ge_ hg; have NB123_135 := nl_ BK123 hg; have NB135_123 := ng_ BK123 hg; have NB124_135 := nl_ BK124 hg; have NB135_124 := ng_ BK124 hg; have NB125_135 := nl_ BK125 hg; have NB135_125 := ng_ BK125 hg; replace BK123 := kb_ BK123 hb; replace BK124 := kb_ BK124 hb; replace BK125 := kb_ BK125 hb; replace HB := hb_ hb; clear hb hbox hg) | ((with_reducible refine gate_callee (f := 144) rfl ?_); refine gl_ (some 31) Tryz.func144 #[.pointer (some ⟨gb135, 0, none⟩), .int .i64 4] ?_; (with_reducible refine (inode_taker_number.calls k1 gb135 (a0.extract 1 a0.size) false 4 t136 t137 t138 w _ ?side1 ?side2 A24.out).mono ?_); (case side1 => exact ⟨(bk_ BK135), GE135.out⟩); (case side2 => repeat (first | (with_reducible first | exact HB.out | apply below_alloc | apply pw_below_drewN | apply below_drew1 | refine below_set ?_ GE123.out | refine below_set ?_ GE124.out | refine below_set ?_ GE125.out | refine below_set ?_ GE135.out) | exact HB.out)); rintro e w46 ⟨rfl, hi, hb, hk⟩; refine ⟨_, rfl, ?_⟩; replace BK123 := ak_ (KeepBut.blk hk (g' := gb123) (o := .cells #[.int .u8 0, .int .u32 0, .string (⟨#[]⟩ : ByteArray), .int .u32 0] 106 (0, 0)) (bk_ BK123) NB123_135.out (by simp)); replace BK124 := ak_ (KeepBut.blk hk (g' := gb124) (o := .cells #[.int .u32 x125000_1, .int .i32 x125001_1, .int .u32 x125002_1, .int .u8 x125003_1, .int .u8 x125004_1, .int .u8 x125005_1, .int .u8 x125006_1, .int .u8 x125007_1] 189 (0, 0)) (bk_ BK124) NB124_135.out (by simp)); replace BK125 := ak_ (KeepBut.blk hk (g' := gb125) (o := .cells #[.int .u8 x126000_1, .int .u32 0, .string (⟨#[]⟩ : ByteArray), .int .u32 0] 106 (0, 0)) (bk_ BK125) NB125_135.out (by simp)); replace HB := ak_ (hb); replace BK135 := ak_ (hi.1); (try clear hb); (try clear hb2); (try clear hk); (try clear hi); have hnb47 := NB125_123.out; have hnc47 := NB123_125.out; have hnb48 := NB125_124.out; have hnc48 := NB124_125.out; have hnb49 := NB125_135.out; have hnc49 := NB135_125.out; obtain ⟨hcz50_0, hcz50_1, hcz50_2, hcz50_3⟩ := cl4_ BK125; obtain ⟨hfz50_0, hfz50_1, hfz50_2, hfz50_3⟩ := fz4_ BK125) | ((with_reducible refine gate_callee (f := 144) rfl ?_); refine gl_ (some 38) Tryz.func144 #[.pointer (some ⟨gb135, 0, none⟩), .int .i64 4] ?_; (with_reducible refine (inode_taker_number.calls k1 gb135 t137 t138 4 t139 t140 false w _ ?side1 ?side2 A26.out).mono ?_); (case side1 => exact ⟨(bs_), GE135.out⟩); (case side2 => repeat (first | (with_reducible first | exact HB.out | apply below_alloc | apply pw_below_drewN | apply below_drew1 | refine below_set ?_ GE123.out | refine below_set ?_ GE124.out | refine below_set ?_ GE125.out | refine below_set ?_ GE135.out) | exact HB.out)); rintro e w51 ⟨rfl, hi, hb, hk⟩; refine ⟨_, rfl, ?_⟩; replace BK123 := ak_ (KeepBut.blk hk (g' := gb123) (o := .cells #[.int .u8 0, .int .u32 0, .string (⟨#[]⟩ : ByteArray), .int .u32 0] 106 (0, 0)) (bs_) NB123_135.out (by simp)); replace BK124 := ak_ (KeepBut.blk hk (g' := gb124) (o := .cells #[.int .u32 x125000_1, .int .i32 x125001_1, .int .u32 x125002_1, .int .u8 x125003_1, .int .u8 x125004_1, .int .u8 x125005_1, .int .u8 x125006_1, .int .u8 x125007_1] 189 (0, 0)) (bs_) NB124_135.out (by simp)); replace BK125 := ak_ (KeepBut.blk hk (g' := gb125) (o := .cells #[.int .u8 x126000_1, .int .u32 ((t136) % 4294967296), .string (⟨#[]⟩ : ByteArray), .int .u32 0] 106 (0, 0)) (bs_) NB125_135.out (by simp)); replace HB := ak_ (hb); replace BK135 := ak_ (hi.1); (try clear hb); (try clear hb2); (try clear hk); (try clear hi); obtain ⟨hcz52_0, hcz52_1, hcz52_2, hcz52_3⟩ := cl4_ BK125; obtain ⟨hfz52_0, hfz52_1, hfz52_2, hfz52_3⟩ := fz4_ BK125) | ((with_reducible refine gate_callee (f := 77) rfl ?_); refine gl_ (some 48) Tryz.func77 #[.agg #[.int .u8 x126000_1, .int .u32 ((t136) % 4294967296), .string (⟨#[]⟩ : ByteArray), .int .u32 ((t139) % 4294967296)]] ?_; (with_reducible refine (inode_Key.calls k1 x126000_1 ((t136) % 4294967296) (⟨#[]⟩ : ByteArray) ((t139) % 4294967296) t142 t143 _ A27.out).mono ?_); rintro e w53 ⟨rfl, hb⟩; refine ⟨_, rfl, ?_⟩; replace BK123 := ak_ (blk_below (g := gb123) (o := .cells #[.int .u8 0, .int .u32 0, .string (⟨#[]⟩ : ByteArray), .int .u32 0] 106 (0, 0)) (bs_) hb); replace BK124 := ak_ (blk_below (g := gb124) (o := .cells #[.int .u32 x125000_1, .int .i32 x125001_1, .int .u32 x125002_1, .int .u8 x125003_1, .int .u8 x125004_1, .int .u8 x125005_1, .int .u8 x125006_1, .int .u8 x125007_1] 189 (0, 0)) (bs_) hb); replace BK125 := ak_ (blk_below (g := gb125) (o := .cells #[.int .u8 x126000_1, .int .u32 ((t136) % 4294967296), .string (⟨#[]⟩ : ByteArray), .int .u32 ((t139) % 4294967296)] 106 (0, 0)) (bs_) hb); replace BK135 := ak_ (blk_below (g := gb135) (o := .cells #[.string t140, .bool false] 206 (0, 0)) (bs_) hb); replace HB := hb_ hb; (try clear hb); (try clear hb2); (try clear hk); (try clear hi); have hnb54 := NB135_123.out; have hnc54 := NB123_135.out; have hnb55 := NB135_124.out; have hnc55 := NB124_135.out; obtain ⟨hcz56_0, hcz56_1⟩ := cl2_ BK135; obtain ⟨hfz56_0, hfz56_1⟩ := fz2_ BK135; obtain ⟨hcz57_0, hcz57_1, hcz57_2, hcz57_3⟩ := cl4_ BK125; obtain ⟨hfz57_0, hfz57_1, hfz57_2, hfz57_3⟩ := fz4_ BK125; have hnb58 := NB123_124.out; have hnc58 := NB124_123.out; obtain ⟨hcz59_0, hcz59_1, hcz59_2, hcz59_3⟩ := cl4_ BK123; obtain ⟨hfz59_0, hfz59_1, hfz59_2, hfz59_3⟩ := fz4_ BK123))
       refine bodyPost_ret (results_ct rfl _ _ gb123 106 #[.int .u8 x126000_1, .int .u32 ((t136) % 4294967296), .string (⟨#[]⟩ : ByteArray), .int .u32 ((t139) % 4294967296)] (0, 0) _ rfl (bs_) Tryz.underlying106 rfl (by kernel_rfl)) rfl ?_
       exact ⟨by first | rfl | (simp [errW_none, errW_some] <;> rfl) | (simp [*, errW_none, errW_some] <;> rfl), bel_⟩
      rw [if_neg c44] at H
      have c44b0 : (t142.toList == a0.toList) = false := beq_eq_false_iff_ne.mpr c44
      have c44b1 : (t142.toList != a0.toList) = true := bne_iff_ne.mpr c44
      simp only [Option.some.injEq, Prod.mk.injEq] at H
      obtain ⟨rfl, rfl, rfl, rfl, rfl⟩ := H
      go_wp2_with (first | ((with_reducible refine gate_dst (N := 29) rfl ?_); refine bx_ (N := 29) (cs := #[.string (a0.extract 1 a0.size), .bool false]) (t := 206) ?_; intro gb135 hg w60 hbox hb; have BK135 := ak_ (hbox); have GW135 := ge_ hg; have GE135 := ge_ hg; have NB123_135 := nl_ BK123 hg; have NB135_123 := ng_ BK123 hg; have NB124_135 := nl_ BK124 hg; have NB135_124 := ng_ BK124 hg; have NB125_135 := nl_ BK125 hg; have NB135_125 := ng_ BK125 hg; replace BK123 := kb_ BK123 hb; replace BK124 := kb_ BK124 hb; replace BK125 := kb_ BK125 hb; replace HB := hb_ hb; clear hb hbox hg) | ((with_reducible refine gate_callee (f := 144) rfl ?_); refine gl_ (some 31) Tryz.func144 #[.pointer (some ⟨gb135, 0, none⟩), .int .i64 4] ?_; (with_reducible refine (inode_taker_number.calls k1 gb135 (a0.extract 1 a0.size) false 4 t136 t137 t138 w _ ?side1 ?side2 A24.out).mono ?_); (case side1 => exact ⟨(bk_ BK135), GE135.out⟩); (case side2 => repeat (first | (with_reducible first | exact HB.out | apply below_alloc | apply pw_below_drewN | apply below_drew1 | refine below_set ?_ GE123.out | refine below_set ?_ GE124.out | refine below_set ?_ GE125.out | refine below_set ?_ GE135.out) | exact HB.out)); rintro e w61 ⟨rfl, hi, hb, hk⟩; refine ⟨_, rfl, ?_⟩; replace BK123 := ak_ (KeepBut.blk hk (g' := gb123) (o := .cells #[.int .u8 0, .int .u32 0, .string (⟨#[]⟩ : ByteArray), .int .u32 0] 106 (0, 0)) (bk_ BK123) NB123_135.out (by simp)); replace BK124 := ak_ (KeepBut.blk hk (g' := gb124) (o := .cells #[.int .u32 x125000_1, .int .i32 x125001_1, .int .u32 x125002_1, .int .u8 x125003_1, .int .u8 x125004_1, .int .u8 x125005_1, .int .u8 x125006_1, .int .u8 x125007_1] 189 (0, 0)) (bk_ BK124) NB124_135.out (by simp)); replace BK125 := ak_ (KeepBut.blk hk (g' := gb125) (o := .cells #[.int .u8 x126000_1, .int .u32 0, .string (⟨#[]⟩ : ByteArray), .int .u32 0] 106 (0, 0)) (bk_ BK125) NB125_135.out (by simp)); replace HB := ak_ (hb); replace BK135 := ak_ (hi.1); (try clear hb); (try clear hb2); (try clear hk); (try clear hi); have hnb62 := NB125_123.out; have hnc62 := NB123_125.out; have hnb63 := NB125_124.out; have hnc63 := NB124_125.out; have hnb64 := NB125_135.out; have hnc64 := NB135_125.out; obtain ⟨hcz65_0, hcz65_1, hcz65_2, hcz65_3⟩ := cl4_ BK125; obtain ⟨hfz65_0, hfz65_1, hfz65_2, hfz65_3⟩ := fz4_ BK125) | ((with_reducible refine gate_callee (f := 144) rfl ?_); refine gl_ (some 38) Tryz.func144 #[.pointer (some ⟨gb135, 0, none⟩), .int .i64 4] ?_; (with_reducible refine (inode_taker_number.calls k1 gb135 t137 t138 4 t139 t140 false w _ ?side1 ?side2 A26.out).mono ?_); (case side1 => exact ⟨(bs_), GE135.out⟩); (case side2 => repeat (first | (with_reducible first | exact HB.out | apply below_alloc | apply pw_below_drewN | apply below_drew1 | refine below_set ?_ GE123.out | refine below_set ?_ GE124.out | refine below_set ?_ GE125.out | refine below_set ?_ GE135.out) | exact HB.out)); rintro e w66 ⟨rfl, hi, hb, hk⟩; refine ⟨_, rfl, ?_⟩; replace BK123 := ak_ (KeepBut.blk hk (g' := gb123) (o := .cells #[.int .u8 0, .int .u32 0, .string (⟨#[]⟩ : ByteArray), .int .u32 0] 106 (0, 0)) (bs_) NB123_135.out (by simp)); replace BK124 := ak_ (KeepBut.blk hk (g' := gb124) (o := .cells #[.int .u32 x125000_1, .int .i32 x125001_1, .int .u32 x125002_1, .int .u8 x125003_1, .int .u8 x125004_1, .int .u8 x125005_1, .int .u8 x125006_1, .int .u8 x125007_1] 189 (0, 0)) (bs_) NB124_135.out (by simp)); replace BK125 := ak_ (KeepBut.blk hk (g' := gb125) (o := .cells #[.int .u8 x126000_1, .int .u32 ((t136) % 4294967296), .string (⟨#[]⟩ : ByteArray), .int .u32 0] 106 (0, 0)) (bs_) NB125_135.out (by simp)); replace HB := ak_ (hb); replace BK135 := ak_ (hi.1); (try clear hb); (try clear hb2); (try clear hk); (try clear hi); obtain ⟨hcz67_0, hcz67_1, hcz67_2, hcz67_3⟩ := cl4_ BK125; obtain ⟨hfz67_0, hfz67_1, hfz67_2, hfz67_3⟩ := fz4_ BK125) | ((with_reducible refine gate_callee (f := 77) rfl ?_); refine gl_ (some 48) Tryz.func77 #[.agg #[.int .u8 x126000_1, .int .u32 ((t136) % 4294967296), .string (⟨#[]⟩ : ByteArray), .int .u32 ((t139) % 4294967296)]] ?_; (with_reducible refine (inode_Key.calls k1 x126000_1 ((t136) % 4294967296) (⟨#[]⟩ : ByteArray) ((t139) % 4294967296) t142 t143 _ A27.out).mono ?_); rintro e w68 ⟨rfl, hb⟩; refine ⟨_, rfl, ?_⟩; replace BK123 := ak_ (blk_below (g := gb123) (o := .cells #[.int .u8 0, .int .u32 0, .string (⟨#[]⟩ : ByteArray), .int .u32 0] 106 (0, 0)) (bs_) hb); replace BK124 := ak_ (blk_below (g := gb124) (o := .cells #[.int .u32 x125000_1, .int .i32 x125001_1, .int .u32 x125002_1, .int .u8 x125003_1, .int .u8 x125004_1, .int .u8 x125005_1, .int .u8 x125006_1, .int .u8 x125007_1] 189 (0, 0)) (bs_) hb); replace BK125 := ak_ (blk_below (g := gb125) (o := .cells #[.int .u8 x126000_1, .int .u32 ((t136) % 4294967296), .string (⟨#[]⟩ : ByteArray), .int .u32 ((t139) % 4294967296)] 106 (0, 0)) (bs_) hb); replace BK135 := ak_ (blk_below (g := gb135) (o := .cells #[.string t140, .bool false] 206 (0, 0)) (bs_) hb); replace HB := hb_ hb; (try clear hb); (try clear hb2); (try clear hk); (try clear hi); have hnb69 := NB135_123.out; have hnc69 := NB123_135.out; have hnb70 := NB135_124.out; have hnc70 := NB124_135.out; obtain ⟨hcz71_0, hcz71_1⟩ := cl2_ BK135; obtain ⟨hfz71_0, hfz71_1⟩ := fz2_ BK135; have hnb72 := NB123_124.out; have hnc72 := NB124_123.out; obtain ⟨hcz73_0, hcz73_1, hcz73_2, hcz73_3⟩ := cl4_ BK123; obtain ⟨hfz73_0, hfz73_1, hfz73_2, hfz73_3⟩ := fz4_ BK123))
      refine bodyPost_ret (results_ct rfl _ _ gb123 106 #[.int .u8 0, .int .u32 0, .string (⟨#[]⟩ : ByteArray), .int .u32 0] (0, 0) _ rfl (bs_) Tryz.underlying106 rfl (by kernel_rfl)) rfl ?_
      exact ⟨by first | rfl | (simp [errW_none, errW_some] <;> rfl) | (simp [*, errW_none, errW_some] <;> rfl), bel_⟩
     rw [if_neg c43] at H
     have c43b0 : (t143 == 0) = false := beq_eq_false_iff_ne.mpr c43
     have c43b1 : (t143 != 0) = true := bne_iff_ne.mpr c43
     simp only [Option.some.injEq, Prod.mk.injEq] at H
     obtain ⟨rfl, rfl, rfl, rfl, rfl⟩ := H
     go_wp2_with (first | ((with_reducible refine gate_dst (N := 29) rfl ?_); refine bx_ (N := 29) (cs := #[.string (a0.extract 1 a0.size), .bool false]) (t := 206) ?_; intro gb135 hg w74 hbox hb; have BK135 := ak_ (hbox); have GW135 := ge_ hg; have GE135 := ge_ hg; have NB123_135 := nl_ BK123 hg; have NB135_123 := ng_ BK123 hg; have NB124_135 := nl_ BK124 hg; have NB135_124 := ng_ BK124 hg; have NB125_135 := nl_ BK125 hg; have NB135_125 := ng_ BK125 hg; replace BK123 := kb_ BK123 hb; replace BK124 := kb_ BK124 hb; replace BK125 := kb_ BK125 hb; replace HB := hb_ hb; clear hb hbox hg) | ((with_reducible refine gate_callee (f := 144) rfl ?_); refine gl_ (some 31) Tryz.func144 #[.pointer (some ⟨gb135, 0, none⟩), .int .i64 4] ?_; (with_reducible refine (inode_taker_number.calls k1 gb135 (a0.extract 1 a0.size) false 4 t136 t137 t138 w _ ?side1 ?side2 A24.out).mono ?_); (case side1 => exact ⟨(bk_ BK135), GE135.out⟩); (case side2 => repeat (first | (with_reducible first | exact HB.out | apply below_alloc | apply pw_below_drewN | apply below_drew1 | refine below_set ?_ GE123.out | refine below_set ?_ GE124.out | refine below_set ?_ GE125.out | refine below_set ?_ GE135.out) | exact HB.out)); rintro e w75 ⟨rfl, hi, hb, hk⟩; refine ⟨_, rfl, ?_⟩; replace BK123 := ak_ (KeepBut.blk hk (g' := gb123) (o := .cells #[.int .u8 0, .int .u32 0, .string (⟨#[]⟩ : ByteArray), .int .u32 0] 106 (0, 0)) (bk_ BK123) NB123_135.out (by simp)); replace BK124 := ak_ (KeepBut.blk hk (g' := gb124) (o := .cells #[.int .u32 x125000_1, .int .i32 x125001_1, .int .u32 x125002_1, .int .u8 x125003_1, .int .u8 x125004_1, .int .u8 x125005_1, .int .u8 x125006_1, .int .u8 x125007_1] 189 (0, 0)) (bk_ BK124) NB124_135.out (by simp)); replace BK125 := ak_ (KeepBut.blk hk (g' := gb125) (o := .cells #[.int .u8 x126000_1, .int .u32 0, .string (⟨#[]⟩ : ByteArray), .int .u32 0] 106 (0, 0)) (bk_ BK125) NB125_135.out (by simp)); replace HB := ak_ (hb); replace BK135 := ak_ (hi.1); (try clear hb); (try clear hb2); (try clear hk); (try clear hi); have hnb76 := NB125_123.out; have hnc76 := NB123_125.out; have hnb77 := NB125_124.out; have hnc77 := NB124_125.out; have hnb78 := NB125_135.out; have hnc78 := NB135_125.out; obtain ⟨hcz79_0, hcz79_1, hcz79_2, hcz79_3⟩ := cl4_ BK125; obtain ⟨hfz79_0, hfz79_1, hfz79_2, hfz79_3⟩ := fz4_ BK125) | ((with_reducible refine gate_callee (f := 144) rfl ?_); refine gl_ (some 38) Tryz.func144 #[.pointer (some ⟨gb135, 0, none⟩), .int .i64 4] ?_; (with_reducible refine (inode_taker_number.calls k1 gb135 t137 t138 4 t139 t140 false w _ ?side1 ?side2 A26.out).mono ?_); (case side1 => exact ⟨(bs_), GE135.out⟩); (case side2 => repeat (first | (with_reducible first | exact HB.out | apply below_alloc | apply pw_below_drewN | apply below_drew1 | refine below_set ?_ GE123.out | refine below_set ?_ GE124.out | refine below_set ?_ GE125.out | refine below_set ?_ GE135.out) | exact HB.out)); rintro e w80 ⟨rfl, hi, hb, hk⟩; refine ⟨_, rfl, ?_⟩; replace BK123 := ak_ (KeepBut.blk hk (g' := gb123) (o := .cells #[.int .u8 0, .int .u32 0, .string (⟨#[]⟩ : ByteArray), .int .u32 0] 106 (0, 0)) (bs_) NB123_135.out (by simp)); replace BK124 := ak_ (KeepBut.blk hk (g' := gb124) (o := .cells #[.int .u32 x125000_1, .int .i32 x125001_1, .int .u32 x125002_1, .int .u8 x125003_1, .int .u8 x125004_1, .int .u8 x125005_1, .int .u8 x125006_1, .int .u8 x125007_1] 189 (0, 0)) (bs_) NB124_135.out (by simp)); replace BK125 := ak_ (KeepBut.blk hk (g' := gb125) (o := .cells #[.int .u8 x126000_1, .int .u32 ((t136) % 4294967296), .string (⟨#[]⟩ : ByteArray), .int .u32 0] 106 (0, 0)) (bs_) NB125_135.out (by simp)); replace HB := ak_ (hb); replace BK135 := ak_ (hi.1); (try clear hb); (try clear hb2); (try clear hk); (try clear hi); obtain ⟨hcz81_0, hcz81_1, hcz81_2, hcz81_3⟩ := cl4_ BK125; obtain ⟨hfz81_0, hfz81_1, hfz81_2, hfz81_3⟩ := fz4_ BK125) | ((with_reducible refine gate_callee (f := 77) rfl ?_); refine gl_ (some 48) Tryz.func77 #[.agg #[.int .u8 x126000_1, .int .u32 ((t136) % 4294967296), .string (⟨#[]⟩ : ByteArray), .int .u32 ((t139) % 4294967296)]] ?_; (with_reducible refine (inode_Key.calls k1 x126000_1 ((t136) % 4294967296) (⟨#[]⟩ : ByteArray) ((t139) % 4294967296) t142 t143 _ A27.out).mono ?_); rintro e w82 ⟨rfl, hb⟩; refine ⟨_, rfl, ?_⟩; replace BK123 := ak_ (blk_below (g := gb123) (o := .cells #[.int .u8 0, .int .u32 0, .string (⟨#[]⟩ : ByteArray), .int .u32 0] 106 (0, 0)) (bs_) hb); replace BK124 := ak_ (blk_below (g := gb124) (o := .cells #[.int .u32 x125000_1, .int .i32 x125001_1, .int .u32 x125002_1, .int .u8 x125003_1, .int .u8 x125004_1, .int .u8 x125005_1, .int .u8 x125006_1, .int .u8 x125007_1] 189 (0, 0)) (bs_) hb); replace BK125 := ak_ (blk_below (g := gb125) (o := .cells #[.int .u8 x126000_1, .int .u32 ((t136) % 4294967296), .string (⟨#[]⟩ : ByteArray), .int .u32 ((t139) % 4294967296)] 106 (0, 0)) (bs_) hb); replace BK135 := ak_ (blk_below (g := gb135) (o := .cells #[.string t140, .bool false] 206 (0, 0)) (bs_) hb); replace HB := hb_ hb; (try clear hb); (try clear hb2); (try clear hk); (try clear hi); have hnb83 := NB135_123.out; have hnc83 := NB123_135.out; have hnb84 := NB135_124.out; have hnc84 := NB124_135.out; obtain ⟨hcz85_0, hcz85_1⟩ := cl2_ BK135; obtain ⟨hfz85_0, hfz85_1⟩ := fz2_ BK135; have hnb86 := NB123_124.out; have hnc86 := NB124_123.out; obtain ⟨hcz87_0, hcz87_1, hcz87_2, hcz87_3⟩ := cl4_ BK123; obtain ⟨hfz87_0, hfz87_1, hfz87_2, hfz87_3⟩ := fz4_ BK123))
     refine bodyPost_ret (results_ct rfl _ _ gb123 106 #[.int .u8 0, .int .u32 0, .string (⟨#[]⟩ : ByteArray), .int .u32 0] (0, 0) _ rfl (bs_) Tryz.underlying106 rfl (by kernel_rfl)) rfl ?_
     exact ⟨by first | rfl | (simp [errW_none, errW_some] <;> rfl) | (simp [*, errW_none, errW_some] <;> rfl), bel_⟩
    rw [if_neg c25] at H
    have c25b0 : (x126000_1 == 3) = false := beq_eq_false_iff_ne.mpr c25
    have c25b1 : (x126000_1 != 3) = true := bne_iff_ne.mpr c25
    replace H := Option.bind_eq_some_iff.mp H
    obtain ⟨⟨t144, t145⟩, A880, H⟩ := H
    replace H : (if t138 = true then (some (0, 0, (⟨#[]⟩ : ByteArray), 0, 4)) else (if t145 = 0 then (if t144.toList = a0.toList then (some (x126000_1, (t136) % 4294967296, t137, 0, 0)) else (some (0, 0, (⟨#[]⟩ : ByteArray), 0, 4))) else (some (0, 0, (⟨#[]⟩ : ByteArray), 0, 4)))) = some (r1, r2, r3, r4, r5) := H
    have A88 := ak_ A880
    clear A880
    by_cases c89 : t138 = true
    ·subst c89
     have H1 : (some (0, 0, (⟨#[]⟩ : ByteArray), 0, 4)) = some (r1, r2, r3, r4, r5) := by rw [if_pos rfl] at H; exact H
     clear H
     have H := H1
     clear H1
     simp only [Option.some.injEq, Prod.mk.injEq] at H
     obtain ⟨rfl, rfl, rfl, rfl, rfl⟩ := H
     go_wp2_with (first | ((with_reducible refine gate_dst (N := 29) rfl ?_); refine bx_ (N := 29) (cs := #[.string (a0.extract 1 a0.size), .bool false]) (t := 206) ?_; intro gb135 hg w90 hbox hb; have BK135 := ak_ (hbox); have GW135 := ge_ hg; have GE135 := ge_ hg; have NB123_135 := nl_ BK123 hg; have NB135_123 := ng_ BK123 hg; have NB124_135 := nl_ BK124 hg; have NB135_124 := ng_ BK124 hg; have NB125_135 := nl_ BK125 hg; have NB135_125 := ng_ BK125 hg; replace BK123 := kb_ BK123 hb; replace BK124 := kb_ BK124 hb; replace BK125 := kb_ BK125 hb; replace HB := hb_ hb; clear hb hbox hg) | ((with_reducible refine gate_callee (f := 144) rfl ?_); refine gl_ (some 31) Tryz.func144 #[.pointer (some ⟨gb135, 0, none⟩), .int .i64 4] ?_; (with_reducible refine (inode_taker_number.calls k1 gb135 (a0.extract 1 a0.size) false 4 t136 t137 true w _ ?side1 ?side2 A24.out).mono ?_); (case side1 => exact ⟨(bk_ BK135), GE135.out⟩); (case side2 => repeat (first | (with_reducible first | exact HB.out | apply below_alloc | apply pw_below_drewN | apply below_drew1 | refine below_set ?_ GE123.out | refine below_set ?_ GE124.out | refine below_set ?_ GE125.out | refine below_set ?_ GE135.out) | exact HB.out)); rintro e w91 ⟨rfl, hi, hb, hk⟩; refine ⟨_, rfl, ?_⟩; replace BK123 := ak_ (KeepBut.blk hk (g' := gb123) (o := .cells #[.int .u8 0, .int .u32 0, .string (⟨#[]⟩ : ByteArray), .int .u32 0] 106 (0, 0)) (bk_ BK123) NB123_135.out (by simp)); replace BK124 := ak_ (KeepBut.blk hk (g' := gb124) (o := .cells #[.int .u32 x125000_1, .int .i32 x125001_1, .int .u32 x125002_1, .int .u8 x125003_1, .int .u8 x125004_1, .int .u8 x125005_1, .int .u8 x125006_1, .int .u8 x125007_1] 189 (0, 0)) (bk_ BK124) NB124_135.out (by simp)); replace BK125 := ak_ (KeepBut.blk hk (g' := gb125) (o := .cells #[.int .u8 x126000_1, .int .u32 0, .string (⟨#[]⟩ : ByteArray), .int .u32 0] 106 (0, 0)) (bk_ BK125) NB125_135.out (by simp)); replace HB := ak_ (hb); replace BK135 := ak_ (hi.1); (try clear hb); (try clear hb2); (try clear hk); (try clear hi); have hnb92 := NB125_123.out; have hnc92 := NB123_125.out; have hnb93 := NB125_124.out; have hnc93 := NB124_125.out; have hnb94 := NB125_135.out; have hnc94 := NB135_125.out; obtain ⟨hcz95_0, hcz95_1, hcz95_2, hcz95_3⟩ := cl4_ BK125; obtain ⟨hfz95_0, hfz95_1, hfz95_2, hfz95_3⟩ := fz4_ BK125; have hnb96 := NB135_123.out; have hnc96 := NB123_135.out; have hnb97 := NB135_124.out; have hnc97 := NB124_135.out; obtain ⟨hcz98_0, hcz98_1⟩ := cl2_ BK135; obtain ⟨hfz98_0, hfz98_1⟩ := fz2_ BK135) | ((with_reducible refine gate_callee (f := 77) rfl ?_); refine gl_ (some 48) Tryz.func77 #[.agg #[.int .u8 x126000_1, .int .u32 ((t136) % 4294967296), .string t137, .int .u32 0]] ?_; (with_reducible refine (inode_Key.calls k1 x126000_1 ((t136) % 4294967296) t137 0 t144 t145 _ A88.out).mono ?_); rintro e w99 ⟨rfl, hb⟩; refine ⟨_, rfl, ?_⟩; replace BK123 := ak_ (blk_below (g := gb123) (o := .cells #[.int .u8 0, .int .u32 0, .string (⟨#[]⟩ : ByteArray), .int .u32 0] 106 (0, 0)) (bs_) hb); replace BK124 := ak_ (blk_below (g := gb124) (o := .cells #[.int .u32 x125000_1, .int .i32 x125001_1, .int .u32 x125002_1, .int .u8 x125003_1, .int .u8 x125004_1, .int .u8 x125005_1, .int .u8 x125006_1, .int .u8 x125007_1] 189 (0, 0)) (bs_) hb); replace BK125 := ak_ (blk_below (g := gb125) (o := .cells #[.int .u8 x126000_1, .int .u32 ((t136) % 4294967296), .string t137, .int .u32 0] 106 (0, 0)) (bs_) hb); replace BK135 := ak_ (blk_below (g := gb135) (o := .cells #[.string t137, .bool true] 206 (0, 0)) (bs_) hb); replace HB := hb_ hb; (try clear hb); (try clear hb2); (try clear hk); (try clear hi); obtain ⟨hcz100_0, hcz100_1⟩ := cl2_ BK135; obtain ⟨hfz100_0, hfz100_1⟩ := fz2_ BK135; have hnb101 := NB123_124.out; have hnc101 := NB124_123.out; obtain ⟨hcz102_0, hcz102_1, hcz102_2, hcz102_3⟩ := cl4_ BK123; obtain ⟨hfz102_0, hfz102_1, hfz102_2, hfz102_3⟩ := fz4_ BK123))
     refine bodyPost_ret (results_ct rfl _ _ gb123 106 #[.int .u8 0, .int .u32 0, .string (⟨#[]⟩ : ByteArray), .int .u32 0] (0, 0) _ rfl (bs_) Tryz.underlying106 rfl (by kernel_rfl)) rfl ?_
     exact ⟨by first | rfl | (simp [errW_none, errW_some] <;> rfl) | (simp [*, errW_none, errW_some] <;> rfl), bel_⟩
    replace c89 := Bool.eq_false_iff.mpr c89
    subst c89
    have H1 : (if t145 = 0 then (if t144.toList = a0.toList then (some (x126000_1, (t136) % 4294967296, t137, 0, 0)) else (some (0, 0, (⟨#[]⟩ : ByteArray), 0, 4))) else (some (0, 0, (⟨#[]⟩ : ByteArray), 0, 4))) = some (r1, r2, r3, r4, r5) := by rw [if_neg (show ¬ (false = true) by decide)] at H; exact H
    clear H
    have H := H1
    clear H1
    by_cases c103 : t145 = 0
    ·rw [if_pos c103] at H
     have c103b0 : (t145 == 0) = true := beq_iff_eq.mpr c103
     have c103b1 : (t145 != 0) = false := bne_eq_false_iff_eq.mpr c103
     clear c103
     by_cases c104 : t144.toList = a0.toList
     ·rw [if_pos c104] at H
      have c104b0 : (t144.toList == a0.toList) = true := beq_iff_eq.mpr c104
      have c104b1 : (t144.toList != a0.toList) = false := bne_eq_false_iff_eq.mpr c104
      clear c104
      simp only [Option.some.injEq, Prod.mk.injEq] at H
      obtain ⟨rfl, rfl, rfl, rfl, rfl⟩ := H
      go_wp2_with (first | ((with_reducible refine gate_dst (N := 29) rfl ?_); refine bx_ (N := 29) (cs := #[.string (a0.extract 1 a0.size), .bool false]) (t := 206) ?_; intro gb135 hg w105 hbox hb; have BK135 := ak_ (hbox); have GW135 := ge_ hg; have GE135 := ge_ hg; have NB123_135 := nl_ BK123 hg; have NB135_123 := ng_ BK123 hg; have NB124_135 := nl_ BK124 hg; have NB135_124 := ng_ BK124 hg; have NB125_135 := nl_ BK125 hg; have NB135_125 := ng_ BK125 hg; replace BK123 := kb_ BK123 hb; replace BK124 := kb_ BK124 hb; replace BK125 := kb_ BK125 hb; replace HB := hb_ hb; clear hb hbox hg) | ((with_reducible refine gate_callee (f := 144) rfl ?_); refine gl_ (some 31) Tryz.func144 #[.pointer (some ⟨gb135, 0, none⟩), .int .i64 4] ?_; (with_reducible refine (inode_taker_number.calls k1 gb135 (a0.extract 1 a0.size) false 4 t136 t137 false w _ ?side1 ?side2 A24.out).mono ?_); (case side1 => exact ⟨(bk_ BK135), GE135.out⟩); (case side2 => repeat (first | (with_reducible first | exact HB.out | apply below_alloc | apply pw_below_drewN | apply below_drew1 | refine below_set ?_ GE123.out | refine below_set ?_ GE124.out | refine below_set ?_ GE125.out | refine below_set ?_ GE135.out) | exact HB.out)); rintro e w106 ⟨rfl, hi, hb, hk⟩; refine ⟨_, rfl, ?_⟩; replace BK123 := ak_ (KeepBut.blk hk (g' := gb123) (o := .cells #[.int .u8 0, .int .u32 0, .string (⟨#[]⟩ : ByteArray), .int .u32 0] 106 (0, 0)) (bk_ BK123) NB123_135.out (by simp)); replace BK124 := ak_ (KeepBut.blk hk (g' := gb124) (o := .cells #[.int .u32 x125000_1, .int .i32 x125001_1, .int .u32 x125002_1, .int .u8 x125003_1, .int .u8 x125004_1, .int .u8 x125005_1, .int .u8 x125006_1, .int .u8 x125007_1] 189 (0, 0)) (bk_ BK124) NB124_135.out (by simp)); replace BK125 := ak_ (KeepBut.blk hk (g' := gb125) (o := .cells #[.int .u8 x126000_1, .int .u32 0, .string (⟨#[]⟩ : ByteArray), .int .u32 0] 106 (0, 0)) (bk_ BK125) NB125_135.out (by simp)); replace HB := ak_ (hb); replace BK135 := ak_ (hi.1); (try clear hb); (try clear hb2); (try clear hk); (try clear hi); have hnb107 := NB125_123.out; have hnc107 := NB123_125.out; have hnb108 := NB125_124.out; have hnc108 := NB124_125.out; have hnb109 := NB125_135.out; have hnc109 := NB135_125.out; obtain ⟨hcz110_0, hcz110_1, hcz110_2, hcz110_3⟩ := cl4_ BK125; obtain ⟨hfz110_0, hfz110_1, hfz110_2, hfz110_3⟩ := fz4_ BK125; have hnb111 := NB135_123.out; have hnc111 := NB123_135.out; have hnb112 := NB135_124.out; have hnc112 := NB124_135.out; obtain ⟨hcz113_0, hcz113_1⟩ := cl2_ BK135; obtain ⟨hfz113_0, hfz113_1⟩ := fz2_ BK135) | ((with_reducible refine gate_callee (f := 77) rfl ?_); refine gl_ (some 48) Tryz.func77 #[.agg #[.int .u8 x126000_1, .int .u32 ((t136) % 4294967296), .string t137, .int .u32 0]] ?_; (with_reducible refine (inode_Key.calls k1 x126000_1 ((t136) % 4294967296) t137 0 t144 t145 _ A88.out).mono ?_); rintro e w114 ⟨rfl, hb⟩; refine ⟨_, rfl, ?_⟩; replace BK123 := ak_ (blk_below (g := gb123) (o := .cells #[.int .u8 0, .int .u32 0, .string (⟨#[]⟩ : ByteArray), .int .u32 0] 106 (0, 0)) (bs_) hb); replace BK124 := ak_ (blk_below (g := gb124) (o := .cells #[.int .u32 x125000_1, .int .i32 x125001_1, .int .u32 x125002_1, .int .u8 x125003_1, .int .u8 x125004_1, .int .u8 x125005_1, .int .u8 x125006_1, .int .u8 x125007_1] 189 (0, 0)) (bs_) hb); replace BK125 := ak_ (blk_below (g := gb125) (o := .cells #[.int .u8 x126000_1, .int .u32 ((t136) % 4294967296), .string t137, .int .u32 0] 106 (0, 0)) (bs_) hb); replace BK135 := ak_ (blk_below (g := gb135) (o := .cells #[.string t137, .bool false] 206 (0, 0)) (bs_) hb); replace HB := hb_ hb; (try clear hb); (try clear hb2); (try clear hk); (try clear hi); obtain ⟨hcz115_0, hcz115_1⟩ := cl2_ BK135; obtain ⟨hfz115_0, hfz115_1⟩ := fz2_ BK135; obtain ⟨hcz116_0, hcz116_1, hcz116_2, hcz116_3⟩ := cl4_ BK125; obtain ⟨hfz116_0, hfz116_1, hfz116_2, hfz116_3⟩ := fz4_ BK125; have hnb117 := NB123_124.out; have hnc117 := NB124_123.out; obtain ⟨hcz118_0, hcz118_1, hcz118_2, hcz118_3⟩ := cl4_ BK123; obtain ⟨hfz118_0, hfz118_1, hfz118_2, hfz118_3⟩ := fz4_ BK123))
      refine bodyPost_ret (results_ct rfl _ _ gb123 106 #[.int .u8 x126000_1, .int .u32 ((t136) % 4294967296), .string t137, .int .u32 0] (0, 0) _ rfl (bs_) Tryz.underlying106 rfl (by kernel_rfl)) rfl ?_
      exact ⟨by first | rfl | (simp [errW_none, errW_some] <;> rfl) | (simp [*, errW_none, errW_some] <;> rfl), bel_⟩
     rw [if_neg c104] at H
     have c104b0 : (t144.toList == a0.toList) = false := beq_eq_false_iff_ne.mpr c104
     have c104b1 : (t144.toList != a0.toList) = true := bne_iff_ne.mpr c104
     simp only [Option.some.injEq, Prod.mk.injEq] at H
     obtain ⟨rfl, rfl, rfl, rfl, rfl⟩ := H
     go_wp2_with (first | ((with_reducible refine gate_dst (N := 29) rfl ?_); refine bx_ (N := 29) (cs := #[.string (a0.extract 1 a0.size), .bool false]) (t := 206) ?_; intro gb135 hg w119 hbox hb; have BK135 := ak_ (hbox); have GW135 := ge_ hg; have GE135 := ge_ hg; have NB123_135 := nl_ BK123 hg; have NB135_123 := ng_ BK123 hg; have NB124_135 := nl_ BK124 hg; have NB135_124 := ng_ BK124 hg; have NB125_135 := nl_ BK125 hg; have NB135_125 := ng_ BK125 hg; replace BK123 := kb_ BK123 hb; replace BK124 := kb_ BK124 hb; replace BK125 := kb_ BK125 hb; replace HB := hb_ hb; clear hb hbox hg) | ((with_reducible refine gate_callee (f := 144) rfl ?_); refine gl_ (some 31) Tryz.func144 #[.pointer (some ⟨gb135, 0, none⟩), .int .i64 4] ?_; (with_reducible refine (inode_taker_number.calls k1 gb135 (a0.extract 1 a0.size) false 4 t136 t137 false w _ ?side1 ?side2 A24.out).mono ?_); (case side1 => exact ⟨(bk_ BK135), GE135.out⟩); (case side2 => repeat (first | (with_reducible first | exact HB.out | apply below_alloc | apply pw_below_drewN | apply below_drew1 | refine below_set ?_ GE123.out | refine below_set ?_ GE124.out | refine below_set ?_ GE125.out | refine below_set ?_ GE135.out) | exact HB.out)); rintro e w120 ⟨rfl, hi, hb, hk⟩; refine ⟨_, rfl, ?_⟩; replace BK123 := ak_ (KeepBut.blk hk (g' := gb123) (o := .cells #[.int .u8 0, .int .u32 0, .string (⟨#[]⟩ : ByteArray), .int .u32 0] 106 (0, 0)) (bk_ BK123) NB123_135.out (by simp)); replace BK124 := ak_ (KeepBut.blk hk (g' := gb124) (o := .cells #[.int .u32 x125000_1, .int .i32 x125001_1, .int .u32 x125002_1, .int .u8 x125003_1, .int .u8 x125004_1, .int .u8 x125005_1, .int .u8 x125006_1, .int .u8 x125007_1] 189 (0, 0)) (bk_ BK124) NB124_135.out (by simp)); replace BK125 := ak_ (KeepBut.blk hk (g' := gb125) (o := .cells #[.int .u8 x126000_1, .int .u32 0, .string (⟨#[]⟩ : ByteArray), .int .u32 0] 106 (0, 0)) (bk_ BK125) NB125_135.out (by simp)); replace HB := ak_ (hb); replace BK135 := ak_ (hi.1); (try clear hb); (try clear hb2); (try clear hk); (try clear hi); have hnb121 := NB125_123.out; have hnc121 := NB123_125.out; have hnb122 := NB125_124.out; have hnc122 := NB124_125.out; have hnb123 := NB125_135.out; have hnc123 := NB135_125.out; obtain ⟨hcz124_0, hcz124_1, hcz124_2, hcz124_3⟩ := cl4_ BK125; obtain ⟨hfz124_0, hfz124_1, hfz124_2, hfz124_3⟩ := fz4_ BK125; have hnb125 := NB135_123.out; have hnc125 := NB123_135.out; have hnb126 := NB135_124.out; have hnc126 := NB124_135.out; obtain ⟨hcz127_0, hcz127_1⟩ := cl2_ BK135; obtain ⟨hfz127_0, hfz127_1⟩ := fz2_ BK135) | ((with_reducible refine gate_callee (f := 77) rfl ?_); refine gl_ (some 48) Tryz.func77 #[.agg #[.int .u8 x126000_1, .int .u32 ((t136) % 4294967296), .string t137, .int .u32 0]] ?_; (with_reducible refine (inode_Key.calls k1 x126000_1 ((t136) % 4294967296) t137 0 t144 t145 _ A88.out).mono ?_); rintro e w128 ⟨rfl, hb⟩; refine ⟨_, rfl, ?_⟩; replace BK123 := ak_ (blk_below (g := gb123) (o := .cells #[.int .u8 0, .int .u32 0, .string (⟨#[]⟩ : ByteArray), .int .u32 0] 106 (0, 0)) (bs_) hb); replace BK124 := ak_ (blk_below (g := gb124) (o := .cells #[.int .u32 x125000_1, .int .i32 x125001_1, .int .u32 x125002_1, .int .u8 x125003_1, .int .u8 x125004_1, .int .u8 x125005_1, .int .u8 x125006_1, .int .u8 x125007_1] 189 (0, 0)) (bs_) hb); replace BK125 := ak_ (blk_below (g := gb125) (o := .cells #[.int .u8 x126000_1, .int .u32 ((t136) % 4294967296), .string t137, .int .u32 0] 106 (0, 0)) (bs_) hb); replace BK135 := ak_ (blk_below (g := gb135) (o := .cells #[.string t137, .bool false] 206 (0, 0)) (bs_) hb); replace HB := hb_ hb; (try clear hb); (try clear hb2); (try clear hk); (try clear hi); obtain ⟨hcz129_0, hcz129_1⟩ := cl2_ BK135; obtain ⟨hfz129_0, hfz129_1⟩ := fz2_ BK135; have hnb130 := NB123_124.out; have hnc130 := NB124_123.out; obtain ⟨hcz131_0, hcz131_1, hcz131_2, hcz131_3⟩ := cl4_ BK123; obtain ⟨hfz131_0, hfz131_1, hfz131_2, hfz131_3⟩ := fz4_ BK123))
     refine bodyPost_ret (results_ct rfl _ _ gb123 106 #[.int .u8 0, .int .u32 0, .string (⟨#[]⟩ : ByteArray), .int .u32 0] (0, 0) _ rfl (bs_) Tryz.underlying106 rfl (by kernel_rfl)) rfl ?_
     exact ⟨by first | rfl | (simp [errW_none, errW_some] <;> rfl) | (simp [*, errW_none, errW_some] <;> rfl), bel_⟩
    rw [if_neg c103] at H
    have c103b0 : (t145 == 0) = false := beq_eq_false_iff_ne.mpr c103
    have c103b1 : (t145 != 0) = true := bne_iff_ne.mpr c103
    simp only [Option.some.injEq, Prod.mk.injEq] at H
    obtain ⟨rfl, rfl, rfl, rfl, rfl⟩ := H
    go_wp2_with (first | ((with_reducible refine gate_dst (N := 29) rfl ?_); refine bx_ (N := 29) (cs := #[.string (a0.extract 1 a0.size), .bool false]) (t := 206) ?_; intro gb135 hg w132 hbox hb; have BK135 := ak_ (hbox); have GW135 := ge_ hg; have GE135 := ge_ hg; have NB123_135 := nl_ BK123 hg; have NB135_123 := ng_ BK123 hg; have NB124_135 := nl_ BK124 hg; have NB135_124 := ng_ BK124 hg; have NB125_135 := nl_ BK125 hg; have NB135_125 := ng_ BK125 hg; replace BK123 := kb_ BK123 hb; replace BK124 := kb_ BK124 hb; replace BK125 := kb_ BK125 hb; replace HB := hb_ hb; clear hb hbox hg) | ((with_reducible refine gate_callee (f := 144) rfl ?_); refine gl_ (some 31) Tryz.func144 #[.pointer (some ⟨gb135, 0, none⟩), .int .i64 4] ?_; (with_reducible refine (inode_taker_number.calls k1 gb135 (a0.extract 1 a0.size) false 4 t136 t137 false w _ ?side1 ?side2 A24.out).mono ?_); (case side1 => exact ⟨(bk_ BK135), GE135.out⟩); (case side2 => repeat (first | (with_reducible first | exact HB.out | apply below_alloc | apply pw_below_drewN | apply below_drew1 | refine below_set ?_ GE123.out | refine below_set ?_ GE124.out | refine below_set ?_ GE125.out | refine below_set ?_ GE135.out) | exact HB.out)); rintro e w133 ⟨rfl, hi, hb, hk⟩; refine ⟨_, rfl, ?_⟩; replace BK123 := ak_ (KeepBut.blk hk (g' := gb123) (o := .cells #[.int .u8 0, .int .u32 0, .string (⟨#[]⟩ : ByteArray), .int .u32 0] 106 (0, 0)) (bk_ BK123) NB123_135.out (by simp)); replace BK124 := ak_ (KeepBut.blk hk (g' := gb124) (o := .cells #[.int .u32 x125000_1, .int .i32 x125001_1, .int .u32 x125002_1, .int .u8 x125003_1, .int .u8 x125004_1, .int .u8 x125005_1, .int .u8 x125006_1, .int .u8 x125007_1] 189 (0, 0)) (bk_ BK124) NB124_135.out (by simp)); replace BK125 := ak_ (KeepBut.blk hk (g' := gb125) (o := .cells #[.int .u8 x126000_1, .int .u32 0, .string (⟨#[]⟩ : ByteArray), .int .u32 0] 106 (0, 0)) (bk_ BK125) NB125_135.out (by simp)); replace HB := ak_ (hb); replace BK135 := ak_ (hi.1); (try clear hb); (try clear hb2); (try clear hk); (try clear hi); have hnb134 := NB125_123.out; have hnc134 := NB123_125.out; have hnb135 := NB125_124.out; have hnc135 := NB124_125.out; have hnb136 := NB125_135.out; have hnc136 := NB135_125.out; obtain ⟨hcz137_0, hcz137_1, hcz137_2, hcz137_3⟩ := cl4_ BK125; obtain ⟨hfz137_0, hfz137_1, hfz137_2, hfz137_3⟩ := fz4_ BK125; have hnb138 := NB135_123.out; have hnc138 := NB123_135.out; have hnb139 := NB135_124.out; have hnc139 := NB124_135.out; obtain ⟨hcz140_0, hcz140_1⟩ := cl2_ BK135; obtain ⟨hfz140_0, hfz140_1⟩ := fz2_ BK135) | ((with_reducible refine gate_callee (f := 77) rfl ?_); refine gl_ (some 48) Tryz.func77 #[.agg #[.int .u8 x126000_1, .int .u32 ((t136) % 4294967296), .string t137, .int .u32 0]] ?_; (with_reducible refine (inode_Key.calls k1 x126000_1 ((t136) % 4294967296) t137 0 t144 t145 _ A88.out).mono ?_); rintro e w141 ⟨rfl, hb⟩; refine ⟨_, rfl, ?_⟩; replace BK123 := ak_ (blk_below (g := gb123) (o := .cells #[.int .u8 0, .int .u32 0, .string (⟨#[]⟩ : ByteArray), .int .u32 0] 106 (0, 0)) (bs_) hb); replace BK124 := ak_ (blk_below (g := gb124) (o := .cells #[.int .u32 x125000_1, .int .i32 x125001_1, .int .u32 x125002_1, .int .u8 x125003_1, .int .u8 x125004_1, .int .u8 x125005_1, .int .u8 x125006_1, .int .u8 x125007_1] 189 (0, 0)) (bs_) hb); replace BK125 := ak_ (blk_below (g := gb125) (o := .cells #[.int .u8 x126000_1, .int .u32 ((t136) % 4294967296), .string t137, .int .u32 0] 106 (0, 0)) (bs_) hb); replace BK135 := ak_ (blk_below (g := gb135) (o := .cells #[.string t137, .bool false] 206 (0, 0)) (bs_) hb); replace HB := hb_ hb; (try clear hb); (try clear hb2); (try clear hk); (try clear hi); obtain ⟨hcz142_0, hcz142_1⟩ := cl2_ BK135; obtain ⟨hfz142_0, hfz142_1⟩ := fz2_ BK135; have hnb143 := NB123_124.out; have hnc143 := NB124_123.out; obtain ⟨hcz144_0, hcz144_1, hcz144_2, hcz144_3⟩ := cl4_ BK123; obtain ⟨hfz144_0, hfz144_1, hfz144_2, hfz144_3⟩ := fz4_ BK123))
    refine bodyPost_ret (results_ct rfl _ _ gb123 106 #[.int .u8 0, .int .u32 0, .string (⟨#[]⟩ : ByteArray), .int .u32 0] (0, 0) _ rfl (bs_) Tryz.underlying106 rfl (by kernel_rfl)) rfl ?_
    exact ⟨by first | rfl | (simp [errW_none, errW_some] <;> rfl) | (simp [*, errW_none, errW_some] <;> rfl), bel_⟩
   rw [if_neg c23] at H
   exact absurd H (by simp)
def inode_Check.f (a0_0 : Int) (a0_1 : Int) (a0_2 : Int) (a0_3 : Int) (a0_4 : ByteArray) : Option (Int) := if a0_0 = 1 then (if a0_2 = 1 then (if a0_3 = 0 then (if (a0_4.toList = ([] : List UInt8)) then (some 0) else (some 4)) else (some 4)) else (some 4)) else (if a0_0 = 2 then (if a0_2 > 0 then (if a0_3 ≤ 65536 then (if (a0_4.toList = ([] : List UInt8)) then (some 0) else (some 4)) else (some 4)) else (some 4)) else (if a0_0 = 3 then (if a0_2 > 0 then (if a0_4.toList = ([] : List UInt8) then (some 4) else (if (a0_4.size : Int) ≤ 64 then ((strings_Contains.f a0_4 (⟨#[0]⟩ : ByteArray)).bind fun t147 => (if t147 = true then (some 4) else (if ((wrap64 (a0_3)) = (a0_4.size : Int)) then (some 0) else (some 4)))) else (some 4))) else (some 4)) else (some 4)))
set_option maxHeartbeats 8000000 in
set_option maxRecDepth 100000 in
theorem inode_Check.calls (a0_0 : Int) (a0_1 : Int) (a0_2 : Int) (a0_3 : Int) (a0_4 : ByteArray) (r : Int) (w : World) (h : inode_Check.f a0_0 a0_1 a0_2 a0_3 a0_4 = some r) :
  Calls Tryz.prog 104 #[.agg #[.int .u8 a0_0, .int .u16 a0_1, .int .u32 a0_2, .int .u32 a0_3, .string a0_4]] w fun e w' => e = .returned (.int .i64 r) ∧ Below w.heap.size w w' := by
 have hu100 := Tryz.underlying100
 have HB := ak_ (Below.refl w.heap.size w)
 have H : (if a0_0 = 1 then (if a0_2 = 1 then (if a0_3 = 0 then (if (a0_4.toList = ([] : List UInt8)) then (some 0) else (some 4)) else (some 4)) else (some 4)) else (if a0_0 = 2 then (if a0_2 > 0 then (if a0_3 ≤ 65536 then (if (a0_4.toList = ([] : List UInt8)) then (some 0) else (some 4)) else (some 4)) else (some 4)) else (if a0_0 = 3 then (if a0_2 > 0 then (if a0_4.toList = ([] : List UInt8) then (some 4) else (if (a0_4.size : Int) ≤ 64 then ((strings_Contains.f a0_4 (⟨#[0]⟩ : ByteArray)).bind fun t147 => (if t147 = true then (some 4) else (if ((wrap64 (a0_3)) = (a0_4.size : Int)) then (some 0) else (some 4)))) else (some 4))) else (some 4)) else (some 4)))) = some r := h
 clear h
 by_cases c2 : a0_0 = 1
 ·rw [if_pos c2] at H
  have c2b0 : (a0_0 == 1) = true := beq_iff_eq.mpr c2
  have c2b1 : (a0_0 != 1) = false := bne_eq_false_iff_eq.mpr c2
  clear c2
  by_cases c3 : a0_2 = 1
  ·rw [if_pos c3] at H
   have c3b0 : (a0_2 == 1) = true := beq_iff_eq.mpr c3
   have c3b1 : (a0_2 != 1) = false := bne_eq_false_iff_eq.mpr c3
   clear c3
   by_cases c4 : a0_3 = 0
   ·rw [if_pos c4] at H
    have c4b0 : (a0_3 == 0) = true := beq_iff_eq.mpr c4
    have c4b1 : (a0_3 != 0) = false := bne_eq_false_iff_eq.mpr c4
    clear c4
    by_cases c5 : (a0_4.toList = ([] : List UInt8))
    ·rw [if_pos c5] at H
     have c5b0 : (a0_4.toList == ([] : List UInt8)) = true := beq_iff_eq.mpr c5
     have c5b1 : (a0_4.toList != ([] : List UInt8)) = false := bne_eq_false_iff_eq.mpr c5
     clear c5
     obtain rfl := Option.some.inj H
     go_enter Tryz.func104, Tryz.ntmps104
     go_wp2_with (first | ((with_reducible refine gate_dst (N := 1) rfl ?_); (try (refine gate_guard (by rfl) ?_; dsimp only)); refine bx_ (N := 1) (cs := #[.int .u8 a0_0, .int .u16 a0_1, .int .u32 a0_2, .int .u32 a0_3, .string a0_4]) (t := 100) ?_; intro gb146 hg w6 hbox hb; have BK146 := ak_ (hbox); have GW146 := ge_ hg; have GE146 := ge_ hg; replace HB := hb_ hb; clear hb hbox hg; obtain ⟨hcz7_0, hcz7_1, hcz7_2, hcz7_3, hcz7_4⟩ := cl5_ BK146; obtain ⟨hfz7_0, hfz7_1, hfz7_2, hfz7_3, hfz7_4⟩ := fz5_ BK146))
     go_ret
     exact ⟨by first | rfl | (simp [errW_none, errW_some] <;> rfl) | (simp [*, errW_none, errW_some] <;> rfl), bel_⟩
    rw [if_neg c5] at H
    have c5b0 : (a0_4.toList == ([] : List UInt8)) = false := beq_eq_false_iff_ne.mpr c5
    have c5b1 : (a0_4.toList != ([] : List UInt8)) = true := bne_iff_ne.mpr c5
    obtain rfl := Option.some.inj H
    go_enter Tryz.func104, Tryz.ntmps104
    go_wp2_with (first | ((with_reducible refine gate_dst (N := 1) rfl ?_); (try (refine gate_guard (by rfl) ?_; dsimp only)); refine bx_ (N := 1) (cs := #[.int .u8 a0_0, .int .u16 a0_1, .int .u32 a0_2, .int .u32 a0_3, .string a0_4]) (t := 100) ?_; intro gb146 hg w8 hbox hb; have BK146 := ak_ (hbox); have GW146 := ge_ hg; have GE146 := ge_ hg; replace HB := hb_ hb; clear hb hbox hg; obtain ⟨hcz9_0, hcz9_1, hcz9_2, hcz9_3, hcz9_4⟩ := cl5_ BK146; obtain ⟨hfz9_0, hfz9_1, hfz9_2, hfz9_3, hfz9_4⟩ := fz5_ BK146))
    go_ret
    exact ⟨by first | rfl | (simp [errW_none, errW_some] <;> rfl) | (simp [*, errW_none, errW_some] <;> rfl), bel_⟩
   rw [if_neg c4] at H
   have c4b0 : (a0_3 == 0) = false := beq_eq_false_iff_ne.mpr c4
   have c4b1 : (a0_3 != 0) = true := bne_iff_ne.mpr c4
   obtain rfl := Option.some.inj H
   go_enter Tryz.func104, Tryz.ntmps104
   go_wp2_with (first | ((with_reducible refine gate_dst (N := 1) rfl ?_); (try (refine gate_guard (by rfl) ?_; dsimp only)); refine bx_ (N := 1) (cs := #[.int .u8 a0_0, .int .u16 a0_1, .int .u32 a0_2, .int .u32 a0_3, .string a0_4]) (t := 100) ?_; intro gb146 hg w10 hbox hb; have BK146 := ak_ (hbox); have GW146 := ge_ hg; have GE146 := ge_ hg; replace HB := hb_ hb; clear hb hbox hg; obtain ⟨hcz11_0, hcz11_1, hcz11_2, hcz11_3, hcz11_4⟩ := cl5_ BK146; obtain ⟨hfz11_0, hfz11_1, hfz11_2, hfz11_3, hfz11_4⟩ := fz5_ BK146))
   go_ret
   exact ⟨by first | rfl | (simp [errW_none, errW_some] <;> rfl) | (simp [*, errW_none, errW_some] <;> rfl), bel_⟩
  rw [if_neg c3] at H
  have c3b0 : (a0_2 == 1) = false := beq_eq_false_iff_ne.mpr c3
  have c3b1 : (a0_2 != 1) = true := bne_iff_ne.mpr c3
  obtain rfl := Option.some.inj H
  go_enter Tryz.func104, Tryz.ntmps104
  go_wp2_with (first | ((with_reducible refine gate_dst (N := 1) rfl ?_); (try (refine gate_guard (by rfl) ?_; dsimp only)); refine bx_ (N := 1) (cs := #[.int .u8 a0_0, .int .u16 a0_1, .int .u32 a0_2, .int .u32 a0_3, .string a0_4]) (t := 100) ?_; intro gb146 hg w12 hbox hb; have BK146 := ak_ (hbox); have GW146 := ge_ hg; have GE146 := ge_ hg; replace HB := hb_ hb; clear hb hbox hg; obtain ⟨hcz13_0, hcz13_1, hcz13_2, hcz13_3, hcz13_4⟩ := cl5_ BK146; obtain ⟨hfz13_0, hfz13_1, hfz13_2, hfz13_3, hfz13_4⟩ := fz5_ BK146))
  go_ret
  exact ⟨by first | rfl | (simp [errW_none, errW_some] <;> rfl) | (simp [*, errW_none, errW_some] <;> rfl), bel_⟩
 rw [if_neg c2] at H
 have c2b0 : (a0_0 == 1) = false := beq_eq_false_iff_ne.mpr c2
 have c2b1 : (a0_0 != 1) = true := bne_iff_ne.mpr c2
 by_cases c14 : a0_0 = 2
 ·rw [if_pos c14] at H
  have c14b0 : (a0_0 == 2) = true := beq_iff_eq.mpr c14
  have c14b1 : (a0_0 != 2) = false := bne_eq_false_iff_eq.mpr c14
  clear c14
  by_cases c15 : a0_2 > 0
  ·rw [if_pos c15] at H
   have c15b0 : decide (0 < a0_2) = true := decide_eq_true c15
   clear c15
   by_cases c16 : a0_3 ≤ 65536
   ·rw [if_pos c16] at H
    have c16b0 : decide (a0_3 ≤ 65536) = true := decide_eq_true c16
    clear c16
    by_cases c17 : (a0_4.toList = ([] : List UInt8))
    ·rw [if_pos c17] at H
     have c17b0 : (a0_4.toList == ([] : List UInt8)) = true := beq_iff_eq.mpr c17
     have c17b1 : (a0_4.toList != ([] : List UInt8)) = false := bne_eq_false_iff_eq.mpr c17
     clear c17
     obtain rfl := Option.some.inj H
     go_enter Tryz.func104, Tryz.ntmps104
     go_wp2_with (first | ((with_reducible refine gate_dst (N := 1) rfl ?_); (try (refine gate_guard (by rfl) ?_; dsimp only)); refine bx_ (N := 1) (cs := #[.int .u8 a0_0, .int .u16 a0_1, .int .u32 a0_2, .int .u32 a0_3, .string a0_4]) (t := 100) ?_; intro gb146 hg w18 hbox hb; have BK146 := ak_ (hbox); have GW146 := ge_ hg; have GE146 := ge_ hg; replace HB := hb_ hb; clear hb hbox hg; obtain ⟨hcz19_0, hcz19_1, hcz19_2, hcz19_3, hcz19_4⟩ := cl5_ BK146; obtain ⟨hfz19_0, hfz19_1, hfz19_2, hfz19_3, hfz19_4⟩ := fz5_ BK146))
     go_ret
     exact ⟨by first | rfl | (simp [errW_none, errW_some] <;> rfl) | (simp [*, errW_none, errW_some] <;> rfl), bel_⟩
    rw [if_neg c17] at H
    have c17b0 : (a0_4.toList == ([] : List UInt8)) = false := beq_eq_false_iff_ne.mpr c17
    have c17b1 : (a0_4.toList != ([] : List UInt8)) = true := bne_iff_ne.mpr c17
    obtain rfl := Option.some.inj H
    go_enter Tryz.func104, Tryz.ntmps104
    go_wp2_with (first | ((with_reducible refine gate_dst (N := 1) rfl ?_); (try (refine gate_guard (by rfl) ?_; dsimp only)); refine bx_ (N := 1) (cs := #[.int .u8 a0_0, .int .u16 a0_1, .int .u32 a0_2, .int .u32 a0_3, .string a0_4]) (t := 100) ?_; intro gb146 hg w20 hbox hb; have BK146 := ak_ (hbox); have GW146 := ge_ hg; have GE146 := ge_ hg; replace HB := hb_ hb; clear hb hbox hg; obtain ⟨hcz21_0, hcz21_1, hcz21_2, hcz21_3, hcz21_4⟩ := cl5_ BK146; obtain ⟨hfz21_0, hfz21_1, hfz21_2, hfz21_3, hfz21_4⟩ := fz5_ BK146))
    go_ret
    exact ⟨by first | rfl | (simp [errW_none, errW_some] <;> rfl) | (simp [*, errW_none, errW_some] <;> rfl), bel_⟩
   rw [if_neg c16] at H
   have c16b0 : decide (a0_3 ≤ 65536) = false := decide_eq_false c16
   clear c16
   obtain rfl := Option.some.inj H
   go_enter Tryz.func104, Tryz.ntmps104
   go_wp2_with (first | ((with_reducible refine gate_dst (N := 1) rfl ?_); (try (refine gate_guard (by rfl) ?_; dsimp only)); refine bx_ (N := 1) (cs := #[.int .u8 a0_0, .int .u16 a0_1, .int .u32 a0_2, .int .u32 a0_3, .string a0_4]) (t := 100) ?_; intro gb146 hg w22 hbox hb; have BK146 := ak_ (hbox); have GW146 := ge_ hg; have GE146 := ge_ hg; replace HB := hb_ hb; clear hb hbox hg; obtain ⟨hcz23_0, hcz23_1, hcz23_2, hcz23_3, hcz23_4⟩ := cl5_ BK146; obtain ⟨hfz23_0, hfz23_1, hfz23_2, hfz23_3, hfz23_4⟩ := fz5_ BK146))
   go_ret
   exact ⟨by first | rfl | (simp [errW_none, errW_some] <;> rfl) | (simp [*, errW_none, errW_some] <;> rfl), bel_⟩
  rw [if_neg c15] at H
  have c15b0 : decide (0 < a0_2) = false := decide_eq_false c15
  clear c15
  obtain rfl := Option.some.inj H
  go_enter Tryz.func104, Tryz.ntmps104
  go_wp2_with (first | ((with_reducible refine gate_dst (N := 1) rfl ?_); (try (refine gate_guard (by rfl) ?_; dsimp only)); refine bx_ (N := 1) (cs := #[.int .u8 a0_0, .int .u16 a0_1, .int .u32 a0_2, .int .u32 a0_3, .string a0_4]) (t := 100) ?_; intro gb146 hg w24 hbox hb; have BK146 := ak_ (hbox); have GW146 := ge_ hg; have GE146 := ge_ hg; replace HB := hb_ hb; clear hb hbox hg; obtain ⟨hcz25_0, hcz25_1, hcz25_2, hcz25_3, hcz25_4⟩ := cl5_ BK146; obtain ⟨hfz25_0, hfz25_1, hfz25_2, hfz25_3, hfz25_4⟩ := fz5_ BK146))
  go_ret
  exact ⟨by first | rfl | (simp [errW_none, errW_some] <;> rfl) | (simp [*, errW_none, errW_some] <;> rfl), bel_⟩
 rw [if_neg c14] at H
 have c14b0 : (a0_0 == 2) = false := beq_eq_false_iff_ne.mpr c14
 have c14b1 : (a0_0 != 2) = true := bne_iff_ne.mpr c14
 by_cases c26 : a0_0 = 3
 ·rw [if_pos c26] at H
  have c26b0 : (a0_0 == 3) = true := beq_iff_eq.mpr c26
  have c26b1 : (a0_0 != 3) = false := bne_eq_false_iff_eq.mpr c26
  clear c26
  by_cases c27 : a0_2 > 0
  ·rw [if_pos c27] at H
   have c27b0 : decide (0 < a0_2) = true := decide_eq_true c27
   clear c27
   by_cases c28 : a0_4.toList = ([] : List UInt8)
   ·rw [if_pos c28] at H
    have c28b0 : (a0_4.toList == ([] : List UInt8)) = true := beq_iff_eq.mpr c28
    have c28b1 : (a0_4.toList != ([] : List UInt8)) = false := bne_eq_false_iff_eq.mpr c28
    clear c28
    obtain rfl := Option.some.inj H
    go_enter Tryz.func104, Tryz.ntmps104
    go_wp2_with (first | ((with_reducible refine gate_dst (N := 1) rfl ?_); (try (refine gate_guard (by rfl) ?_; dsimp only)); refine bx_ (N := 1) (cs := #[.int .u8 a0_0, .int .u16 a0_1, .int .u32 a0_2, .int .u32 a0_3, .string a0_4]) (t := 100) ?_; intro gb146 hg w29 hbox hb; have BK146 := ak_ (hbox); have GW146 := ge_ hg; have GE146 := ge_ hg; replace HB := hb_ hb; clear hb hbox hg; obtain ⟨hcz30_0, hcz30_1, hcz30_2, hcz30_3, hcz30_4⟩ := cl5_ BK146; obtain ⟨hfz30_0, hfz30_1, hfz30_2, hfz30_3, hfz30_4⟩ := fz5_ BK146))
    go_ret
    exact ⟨by first | rfl | (simp [errW_none, errW_some] <;> rfl) | (simp [*, errW_none, errW_some] <;> rfl), bel_⟩
   rw [if_neg c28] at H
   have c28b0 : (a0_4.toList == ([] : List UInt8)) = false := beq_eq_false_iff_ne.mpr c28
   have c28b1 : (a0_4.toList != ([] : List UInt8)) = true := bne_iff_ne.mpr c28
   by_cases c31 : (a0_4.size : Int) ≤ 64
   ·rw [if_pos c31] at H
    have c31b0 : decide ((a0_4.size : Int) ≤ 64) = true := decide_eq_true c31
    have c31b1 : decide (a0_4.size ≤ 64) = true := decide_eq_true (by omega)
    clear c31
    replace H := Option.bind_eq_some_iff.mp H
    obtain ⟨t147, A320, H⟩ := H
    replace H : (if t147 = true then (some 4) else (if ((wrap64 (a0_3)) = (a0_4.size : Int)) then (some 0) else (some 4))) = some r := H
    have A32 := ak_ A320
    clear A320
    by_cases c33 : t147 = true
    ·subst c33
     have H1 : (some 4) = some r := by rw [if_pos rfl] at H; exact H
     clear H
     have H := H1
     clear H1
     obtain rfl := Option.some.inj H
     go_enter Tryz.func104, Tryz.ntmps104
     go_wp2_with (first | ((with_reducible refine gate_dst (N := 1) rfl ?_); (try (refine gate_guard (by rfl) ?_; dsimp only)); refine bx_ (N := 1) (cs := #[.int .u8 a0_0, .int .u16 a0_1, .int .u32 a0_2, .int .u32 a0_3, .string a0_4]) (t := 100) ?_; intro gb146 hg w34 hbox hb; have BK146 := ak_ (hbox); have GW146 := ge_ hg; have GE146 := ge_ hg; replace HB := hb_ hb; clear hb hbox hg; obtain ⟨hcz35_0, hcz35_1, hcz35_2, hcz35_3, hcz35_4⟩ := cl5_ BK146; obtain ⟨hfz35_0, hfz35_1, hfz35_2, hfz35_3, hfz35_4⟩ := fz5_ BK146) | (go_at_call 125; (with_reducible refine (strings_Contains.calls a0_4 (⟨#[0]⟩ : ByteArray) true _ A32.out).mono ?_); rintro e w' ⟨rfl, ⟨nd, rfl⟩⟩))
     go_ret
     exact ⟨by first | rfl | (simp [errW_none, errW_some] <;> rfl) | (simp [*, errW_none, errW_some] <;> rfl), bel_⟩
    replace c33 := Bool.eq_false_iff.mpr c33
    subst c33
    have H1 : (if ((wrap64 (a0_3)) = (a0_4.size : Int)) then (some 0) else (some 4)) = some r := by rw [if_neg (show ¬ (false = true) by decide)] at H; exact H
    clear H
    have H := H1
    clear H1
    by_cases c36 : ((wrap64 (a0_3)) = (a0_4.size : Int))
    ·rw [if_pos c36] at H
     have c36b0 : ((wrap64 (a0_3)) == (a0_4.size : Int)) = true := beq_iff_eq.mpr c36
     have c36b1 : ((wrap64 (a0_3)) != (a0_4.size : Int)) = false := bne_eq_false_iff_eq.mpr c36
     clear c36
     obtain rfl := Option.some.inj H
     go_enter Tryz.func104, Tryz.ntmps104
     go_wp2_with (first | ((with_reducible refine gate_dst (N := 1) rfl ?_); (try (refine gate_guard (by rfl) ?_; dsimp only)); refine bx_ (N := 1) (cs := #[.int .u8 a0_0, .int .u16 a0_1, .int .u32 a0_2, .int .u32 a0_3, .string a0_4]) (t := 100) ?_; intro gb146 hg w37 hbox hb; have BK146 := ak_ (hbox); have GW146 := ge_ hg; have GE146 := ge_ hg; replace HB := hb_ hb; clear hb hbox hg; obtain ⟨hcz38_0, hcz38_1, hcz38_2, hcz38_3, hcz38_4⟩ := cl5_ BK146; obtain ⟨hfz38_0, hfz38_1, hfz38_2, hfz38_3, hfz38_4⟩ := fz5_ BK146) | (go_at_call 125; (with_reducible refine (strings_Contains.calls a0_4 (⟨#[0]⟩ : ByteArray) false _ A32.out).mono ?_); rintro e w' ⟨rfl, ⟨nd, rfl⟩⟩))
     go_ret
     exact ⟨by first | rfl | (simp [errW_none, errW_some] <;> rfl) | (simp [*, errW_none, errW_some] <;> rfl), bel_⟩
    rw [if_neg c36] at H
    have c36b0 : ((wrap64 (a0_3)) == (a0_4.size : Int)) = false := beq_eq_false_iff_ne.mpr c36
    have c36b1 : ((wrap64 (a0_3)) != (a0_4.size : Int)) = true := bne_iff_ne.mpr c36
    obtain rfl := Option.some.inj H
    go_enter Tryz.func104, Tryz.ntmps104
    go_wp2_with (first | ((with_reducible refine gate_dst (N := 1) rfl ?_); (try (refine gate_guard (by rfl) ?_; dsimp only)); refine bx_ (N := 1) (cs := #[.int .u8 a0_0, .int .u16 a0_1, .int .u32 a0_2, .int .u32 a0_3, .string a0_4]) (t := 100) ?_; intro gb146 hg w39 hbox hb; have BK146 := ak_ (hbox); have GW146 := ge_ hg; have GE146 := ge_ hg; replace HB := hb_ hb; clear hb hbox hg; obtain ⟨hcz40_0, hcz40_1, hcz40_2, hcz40_3, hcz40_4⟩ := cl5_ BK146; obtain ⟨hfz40_0, hfz40_1, hfz40_2, hfz40_3, hfz40_4⟩ := fz5_ BK146) | (go_at_call 125; (with_reducible refine (strings_Contains.calls a0_4 (⟨#[0]⟩ : ByteArray) false _ A32.out).mono ?_); rintro e w' ⟨rfl, ⟨nd, rfl⟩⟩))
    go_ret
    exact ⟨by first | rfl | (simp [errW_none, errW_some] <;> rfl) | (simp [*, errW_none, errW_some] <;> rfl), bel_⟩
   rw [if_neg c31] at H
   have c31b0 : decide ((a0_4.size : Int) ≤ 64) = false := decide_eq_false c31
   have c31b1 : decide (a0_4.size ≤ 64) = false := decide_eq_false (by omega)
   clear c31
   obtain rfl := Option.some.inj H
   go_enter Tryz.func104, Tryz.ntmps104
   go_wp2_with (first | ((with_reducible refine gate_dst (N := 1) rfl ?_); (try (refine gate_guard (by rfl) ?_; dsimp only)); refine bx_ (N := 1) (cs := #[.int .u8 a0_0, .int .u16 a0_1, .int .u32 a0_2, .int .u32 a0_3, .string a0_4]) (t := 100) ?_; intro gb146 hg w41 hbox hb; have BK146 := ak_ (hbox); have GW146 := ge_ hg; have GE146 := ge_ hg; replace HB := hb_ hb; clear hb hbox hg; obtain ⟨hcz42_0, hcz42_1, hcz42_2, hcz42_3, hcz42_4⟩ := cl5_ BK146; obtain ⟨hfz42_0, hfz42_1, hfz42_2, hfz42_3, hfz42_4⟩ := fz5_ BK146))
   go_ret
   exact ⟨by first | rfl | (simp [errW_none, errW_some] <;> rfl) | (simp [*, errW_none, errW_some] <;> rfl), bel_⟩
  rw [if_neg c27] at H
  have c27b0 : decide (0 < a0_2) = false := decide_eq_false c27
  clear c27
  obtain rfl := Option.some.inj H
  go_enter Tryz.func104, Tryz.ntmps104
  go_wp2_with (first | ((with_reducible refine gate_dst (N := 1) rfl ?_); (try (refine gate_guard (by rfl) ?_; dsimp only)); refine bx_ (N := 1) (cs := #[.int .u8 a0_0, .int .u16 a0_1, .int .u32 a0_2, .int .u32 a0_3, .string a0_4]) (t := 100) ?_; intro gb146 hg w43 hbox hb; have BK146 := ak_ (hbox); have GW146 := ge_ hg; have GE146 := ge_ hg; replace HB := hb_ hb; clear hb hbox hg; obtain ⟨hcz44_0, hcz44_1, hcz44_2, hcz44_3, hcz44_4⟩ := cl5_ BK146; obtain ⟨hfz44_0, hfz44_1, hfz44_2, hfz44_3, hfz44_4⟩ := fz5_ BK146))
  go_ret
  exact ⟨by first | rfl | (simp [errW_none, errW_some] <;> rfl) | (simp [*, errW_none, errW_some] <;> rfl), bel_⟩
 rw [if_neg c26] at H
 have c26b0 : (a0_0 == 3) = false := beq_eq_false_iff_ne.mpr c26
 have c26b1 : (a0_0 != 3) = true := bne_iff_ne.mpr c26
 obtain rfl := Option.some.inj H
 go_enter Tryz.func104, Tryz.ntmps104
 go_wp2_with (first | ((with_reducible refine gate_dst (N := 1) rfl ?_); (try (refine gate_guard (by rfl) ?_; dsimp only)); refine bx_ (N := 1) (cs := #[.int .u8 a0_0, .int .u16 a0_1, .int .u32 a0_2, .int .u32 a0_3, .string a0_4]) (t := 100) ?_; intro gb146 hg w45 hbox hb; have BK146 := ak_ (hbox); have GW146 := ge_ hg; have GE146 := ge_ hg; replace HB := hb_ hb; clear hb hbox hg; obtain ⟨hcz46_0, hcz46_1, hcz46_2, hcz46_3, hcz46_4⟩ := cl5_ BK146; obtain ⟨hfz46_0, hfz46_1, hfz46_2, hfz46_3, hfz46_4⟩ := fz5_ BK146))
 go_ret
 exact ⟨by first | rfl | (simp [errW_none, errW_some] <;> rfl) | (simp [*, errW_none, errW_some] <;> rfl), bel_⟩
def pack_TakeText.j0 : Nat → Int → ByteArray → Int → Bool → Option (ByteArray × ByteArray × Int)
 | 0, _, _, _, _ => none
 | k + 1, x5, x6, x7, x22 => if x22 = true then (some ((⟨#[]⟩ : ByteArray), (⟨#[]⟩ : ByteArray), 3)) else (if x7 = 0 then (if 0 ≤ x5 then (if x5 ≤ (x6.size : Int) then (some (x6.extract 0 (x5 : Int).toNat, x6.extract (x5 : Int).toNat x6.size, 0)) else (none)) else (none)) else (some ((⟨#[]⟩ : ByteArray), (⟨#[]⟩ : ByteArray), x7)))
def pack_TakeText.f (k : Nat) (a0 : ByteArray) : Option (ByteArray × ByteArray × Int) := (pack_TakeNumber.f k a0 2).bind fun bt148 => (if bt148.2.2 = 0 then (pack_TakeText.j0 k bt148.1 bt148.2.1 bt148.2.2 (decide (bt148.1 > (IntKind.u64.wrap ((bt148.2.1.size : Int)))))) else (pack_TakeText.j0 k bt148.1 bt148.2.1 bt148.2.2 false))
theorem pack_TakeText.mono_l : ∀ k, (∀ y0 y1 y2 y3, LeO (pack_TakeText.j0 k y0 y1 y2 y3) (pack_TakeText.j0 (k + 1) y0 y1 y2 y3))
 | 0 => fun _ _ _ _ r h => by simp [pack_TakeText.j0] at h
 | k + 1 => by
  have ih0 := pack_TakeText.mono_l k
  ·intro y0 y1 y2 y3
   unfold pack_TakeText.j0
   repeat' first
   | (with_reducible exact ih0 _ _ _ _)
   | (with_reducible exact pack_TakeNumber.mono _ _ _)
   | (with_reducible exact LeO.refl _)
   | (with_reducible exact LeO.none _)
   | (with_reducible refine LeO.ite ?_ ?_)
   | (with_reducible refine LeO.bind ?_ (fun _ => ?_))
   | exact ih0 _ _ _ _
   | exact pack_TakeNumber.mono _ _ _
   | exact LeO.none _
   | refine LeO.ite ?_ ?_
   | refine LeO.bind ?_ (fun _ => ?_)
theorem pack_TakeText.mono : ∀ a0 k, LeO (pack_TakeText.f k a0) (pack_TakeText.f (k + 1) a0) := by
 intro a0 k
 have ih0 := pack_TakeText.mono_l k
 unfold pack_TakeText.f
 repeat' first
   | (with_reducible exact ih0 _ _ _ _)
   | (with_reducible exact pack_TakeNumber.mono _ _ _)
   | (with_reducible exact LeO.refl _)
   | (with_reducible exact LeO.none _)
   | (with_reducible refine LeO.ite ?_ ?_)
   | (with_reducible refine LeO.bind ?_ (fun _ => ?_))
   | exact ih0 _ _ _ _
   | exact pack_TakeNumber.mono _ _ _
   | exact LeO.none _
   | refine LeO.ite ?_ ?_
   | refine LeO.bind ?_ (fun _ => ?_)
set_option maxHeartbeats 8000000 in
set_option maxRecDepth 100000 in
theorem pack_TakeText.calls (k : Nat) (a0 : ByteArray) (r1 : ByteArray) (r2 : ByteArray) (r3 : Int) (w : World) (h : pack_TakeText.f k a0 = some (r1, r2, r3)) :
  Calls Tryz.prog 119 #[.string a0] w fun e w' => e = .returned (.tuple #[.string r1, .string r2, .int .i64 r3]) ∧ Drawn0 w w' := by
 have H : ((pack_TakeNumber.f k a0 2).bind fun bt148 => (if bt148.2.2 = 0 then (pack_TakeText.j0 k bt148.1 bt148.2.1 bt148.2.2 (decide (bt148.1 > (IntKind.u64.wrap ((bt148.2.1.size : Int)))))) else (pack_TakeText.j0 k bt148.1 bt148.2.1 bt148.2.2 false))) = some (r1, r2, r3) := h
 clear h
 replace H := Option.bind_eq_some_iff.mp H
 obtain ⟨⟨t148, t149, t150⟩, A20, H⟩ := H
 replace H : (if t150 = 0 then (pack_TakeText.j0 k t148 t149 t150 (decide (t148 > (IntKind.u64.wrap ((t149.size : Int)))))) else (pack_TakeText.j0 k t148 t149 t150 false)) = some (r1, r2, r3) := H
 have A2 := ak_ A20
 clear A20
 have HC3 := ak_ H
 clear H
 go_enter Tryz.func119, Tryz.ntmps119
 go_upto_region 2 with (first | (go_at_call 60; (with_reducible refine (pack_TakeNumber.calls k a0 2 t148 t149 t150 _ A2.out).mono ?_); rintro e w' ⟨rfl, ⟨nd, rfl⟩⟩; (try first | exact ⟨rfl, _, World.drewN_drewN _ _ _⟩ | exact ⟨rfl, _, Eq.trans (World.drewN_drewN _ _ _) (congrArg (World.drewN _) (Nat.add_assoc _ _ _))⟩)))
 repeat (go_quiet (first | (go_at_call 60; (with_reducible refine (pack_TakeNumber.calls k a0 2 t148 t149 t150 _ A2.out).mono ?_); rintro e w' ⟨rfl, ⟨nd, rfl⟩⟩; (try first | exact ⟨rfl, _, World.drewN_drewN _ _ _⟩ | exact ⟨rfl, _, Eq.trans (World.drewN_drewN _ _ _) (congrArg (World.drewN _) (Nat.add_assoc _ _ _))⟩))); go_upto_region 2 with (first | (go_at_call 60; (with_reducible refine (pack_TakeNumber.calls k a0 2 t148 t149 t150 _ A2.out).mono ?_); rintro e w' ⟨rfl, ⟨nd, rfl⟩⟩; (try first | exact ⟨rfl, _, World.drewN_drewN _ _ _⟩ | exact ⟨rfl, _, Eq.trans (World.drewN_drewN _ _ _) (congrArg (World.drewN _) (Nat.add_assoc _ _ _))⟩))))
 (try simp only [Act.put, List.setIfInBounds_toArray, List.set_cons_zero, List.set_cons_succ])
 go_cut [22] (fun v22 wc => ∃ (kq : Nat) (x22_2 : Bool), v22 = .bool x22_2 ∧ Aside0 (pack_TakeText.j0 kq t148 t149 t150 x22_2 = some (r1, r2, r3)) ∧ Aside0 (kq ≤ k) ∧ Drawn0 w wc)
 case first =>
  have H := HC3.out
  clear HC3
  by_cases c4 : t150 = 0
  ·rw [if_pos c4] at H
   have c4b0 : (t150 == 0) = true := beq_iff_eq.mpr c4
   have c4b1 : (t150 != 0) = false := bne_eq_false_iff_eq.mpr c4
   clear c4
   (first | rw [c4b0] | (simp only [i64_w, i32_w]; rw [c4b0]) | skip)
   have H' := ak_ H
   clear H
   go_wp2
   repeat (go_quiet (fail); try go_wp2)
   go_meet
   case rel => exact ⟨_, (decide (t148 > (IntKind.u64.wrap ((t149.size : Int))))), (by first | rfl | (simp; done) | (simp [*]; done)), H', ⟨by first | omega | exact Nat.le_refl _⟩, by repeat (first | exact Drawn0.refl _ | apply Drawn0.step)⟩
  rw [if_neg c4] at H
  have c4b0 : (t150 == 0) = false := beq_eq_false_iff_ne.mpr c4
  have c4b1 : (t150 != 0) = true := bne_iff_ne.mpr c4
  (first | rw [c4b0] | (simp only [i64_w, i32_w]; rw [c4b0]) | skip)
  have H' := ak_ H
  clear H
  go_wp2
  repeat (go_quiet (fail); try go_wp2)
  go_meet
  case rel => exact ⟨_, (false), (by first | rfl | (simp; done) | (simp [*]; done)), H', ⟨by first | omega | exact Nat.le_refl _⟩, by repeat (first | exact Drawn0.refl _ | apply Drawn0.step)⟩
 case rest =>
  clear HC3
  try clear c1
  try clear p2
  try clear c4
  try clear c4b0
  try clear c4b1
  obtain ⟨kq, x22_2, rfl, HA, HJ2, ⟨mc2, rfl⟩⟩ := hcut
  cases kq with
  | zero => exact absurd HA.out (by simp [pack_TakeText.j0])
  | succ kj2 =>
   have H := HA.out
   clear HA
   simp only [pack_TakeText.j0] at H
   by_cases c5 : x22_2 = true
   ·subst c5
    have H1 : (some ((⟨#[]⟩ : ByteArray), (⟨#[]⟩ : ByteArray), 3)) = some (r1, r2, r3) := by rw [if_pos rfl] at H; exact H
    clear H
    have H := H1
    clear H1
    simp only [Option.some.injEq, Prod.mk.injEq] at H
    obtain ⟨rfl, rfl, rfl⟩ := H
    go_wp2
    repeat (go_quiet (fail); try go_wp2)
    go_ret3
    exact ⟨by first | rfl | (simp; done) | (simp [*]; done), by repeat (first | exact Drawn0.refl _ | apply Drawn0.step)⟩
   replace c5 := Bool.eq_false_iff.mpr c5
   subst c5
   have H1 : (if t150 = 0 then (if 0 ≤ t148 then (if t148 ≤ (t149.size : Int) then (some (t149.extract 0 (t148 : Int).toNat, t149.extract (t148 : Int).toNat t149.size, 0)) else (none)) else (none)) else (some ((⟨#[]⟩ : ByteArray), (⟨#[]⟩ : ByteArray), t150))) = some (r1, r2, r3) := by rw [if_neg (show ¬ (false = true) by decide)] at H; exact H
   clear H
   have H := H1
   clear H1
   by_cases c6 : t150 = 0
   ·rw [if_pos c6] at H
    have c6b0 : (t150 == 0) = true := beq_iff_eq.mpr c6
    have c6b1 : (t150 != 0) = false := bne_eq_false_iff_eq.mpr c6
    clear c6
    by_cases c7 : 0 ≤ t148
    ·rw [if_pos c7] at H
     have c7b0 := eq_true c7
     have c7b1 : decide (0 ≤ t148) = true := decide_eq_true c7
     clear c7
     by_cases c8 : t148 ≤ (t149.size : Int)
     ·rw [if_pos c8] at H
      have c8b0 := eq_true c8
      have c8b1 : decide (t148 ≤ (t149.size : Int)) = true := decide_eq_true c8
      clear c8
      have c9b0 := eq_true (of_decide_eq_true (by first | (with_reducible assumption) | assumption) : 0 ≤ t148)
      have c10b0 := eq_true (of_decide_eq_true (by first | (with_reducible assumption) | assumption) : t148 ≤ (t149.size : Int))
      simp only [Option.some.injEq, Prod.mk.injEq] at H
      obtain ⟨rfl, rfl, rfl⟩ := H
      go_wp2
      repeat (go_quiet (fail); try go_wp2)
      go_ret3
      exact ⟨by first | rfl | (simp; done) | (simp [*]; done), by repeat (first | exact Drawn0.refl _ | apply Drawn0.step)⟩
     rw [if_neg c8] at H
     exact absurd H (by simp)
    rw [if_neg c7] at H
    exact absurd H (by simp)
   rw [if_neg c6] at H
   have c6b0 : (t150 == 0) = false := beq_eq_false_iff_ne.mpr c6
   have c6b1 : (t150 != 0) = true := bne_iff_ne.mpr c6
   simp only [Option.some.injEq, Prod.mk.injEq] at H
   obtain ⟨rfl, rfl, rfl⟩ := H
   go_wp2
   repeat (go_quiet (fail); try go_wp2)
   go_ret3
   exact ⟨by first | rfl | (simp; done) | (simp [*]; done), by repeat (first | exact Drawn0.refl _ | apply Drawn0.step)⟩
def inode_taker_text.f (k : Nat) (s0_0 : ByteArray) (s0_1 : Bool) : Option (ByteArray × ByteArray × Bool) := (pack_TakeText.f k s0_0).bind fun bt151 => (if s0_1 = true then (some (bt151.1, bt151.2.1, true)) else (some (bt151.1, bt151.2.1, (bt151.2.2 != 0))))
theorem inode_taker_text.mono : ∀ a0 a1 k, LeO (inode_taker_text.f k a0 a1) (inode_taker_text.f (k + 1) a0 a1) := by
 intro a0 a1 k
 unfold inode_taker_text.f
 repeat' first
   | (with_reducible exact pack_TakeText.mono _ _)
   | (with_reducible exact LeO.refl _)
   | (with_reducible exact LeO.none _)
   | (with_reducible refine LeO.ite ?_ ?_)
   | (with_reducible refine LeO.bind ?_ (fun _ => ?_))
   | exact pack_TakeText.mono _ _
   | exact LeO.none _
   | refine LeO.ite ?_ ?_
   | refine LeO.bind ?_ (fun _ => ?_)
set_option maxHeartbeats 8000000 in
set_option maxRecDepth 100000 in
theorem inode_taker_text.calls (k : Nat) (g : Nat) (s0_0 : ByteArray) (s0_1 : Bool) (r1 : ByteArray) (r2 : ByteArray) (r3 : Bool) (w0 w : World) (hI : IsS206 w0 w g s0_0 s0_1) (hB : Below w0.heap.size w0 w) (h : inode_taker_text.f k s0_0 s0_1 = some (r1, r2, r3)) :
  Calls Tryz.prog 145 #[.pointer (some ⟨g, 0, none⟩)] w fun e w' => e = .returned (.string r1) ∧ IsS206 w0 w' g r2 r3 ∧ Below w0.heap.size w0 w' ∧ KeepBut w w' g none := by
 have HI0 := ak_ hI
 have HK := ak_ (KeepBut.refl w g none)
 have HL := ak_ hB.size
 clear hI
 have HW0 := ak_ hB.size
 have HB := ak_ hB
 clear hB
 have H : ((pack_TakeText.f k s0_0).bind fun bt151 => (if s0_1 = true then (some (bt151.1, bt151.2.1, true)) else (some (bt151.1, bt151.2.1, (bt151.2.2 != 0))))) = some (r1, r2, r3) := h
 clear h
 replace H := Option.bind_eq_some_iff.mp H
 obtain ⟨⟨t151, t152, t153⟩, A20, H⟩ := H
 replace H : (if s0_1 = true then (some (t151, t152, true)) else (some (t151, t152, (t153 != 0)))) = some (r1, r2, r3) := H
 have A2 := ak_ A20
 clear A20
 by_cases c3 : s0_1 = true
 ·subst c3
  have H1 : (some (t151, t152, true)) = some (r1, r2, r3) := by rw [if_pos rfl] at H; exact H
  clear H
  have H := H1
  clear H1
  simp only [Option.some.injEq, Prod.mk.injEq] at H
  obtain ⟨rfl, rfl, rfl⟩ := H
  obtain ⟨HGz4, hgz4⟩ := HI0.out
  have hcz4_0 := cellS206_0 HGz4
  have hcz4_1 := cellS206_1 HGz4
  have hfz4_0 := blk_frozen HGz4 0
  have hfz4_1 := blk_frozen HGz4 1
  clear HGz4 hgz4
  go_enter Tryz.func145, Tryz.ntmps145
  go_wp2_with (first | ((with_reducible refine gate_callee (f := 119) rfl ?_); refine gl_ (some 11) Tryz.func119 #[.string s0_0] ?_; (with_reducible refine (pack_TakeText.calls k s0_0 t151 t152 t153 _ A2.out).mono ?_); rintro e w' ⟨rfl, ⟨nd, rfl⟩⟩; refine ⟨_, rfl, ?_⟩))
  go_ret
  exact ⟨by first | rfl | (simp [errW_none, errW_some] <;> rfl) | (simp [*, errW_none, errW_some] <;> rfl), by repeat (first | (with_reducible first | exact HI0.out | apply IsS206.alloc | apply IsS206.drewN | apply IsS206.drew | apply IsS206.set_0 | apply IsS206.set_1) | exact HI0.out), by repeat (first | (with_reducible first | exact HB.out | apply below_alloc | apply pw_below_drewN | apply below_drew1 | refine below_set ?_ (IsS206.ge HI0.out)) | exact HB.out), by repeat (first | (with_reducible first | exact HK.out | apply KeepBut.set_ | apply keep_drewN | apply keep_drew | apply keep_alloc) | exact HK.out)⟩
 replace c3 := Bool.eq_false_iff.mpr c3
 subst c3
 have H1 : (some (t151, t152, (t153 != 0))) = some (r1, r2, r3) := by rw [if_neg (show ¬ (false = true) by decide)] at H; exact H
 clear H
 have H := H1
 clear H1
 simp only [Option.some.injEq, Prod.mk.injEq] at H
 obtain ⟨rfl, rfl, rfl⟩ := H
 obtain ⟨HGz5, hgz5⟩ := HI0.out
 have hcz5_0 := cellS206_0 HGz5
 have hcz5_1 := cellS206_1 HGz5
 have hfz5_0 := blk_frozen HGz5 0
 have hfz5_1 := blk_frozen HGz5 1
 clear HGz5 hgz5
 go_enter Tryz.func145, Tryz.ntmps145
 go_wp2_with (first | ((with_reducible refine gate_callee (f := 119) rfl ?_); refine gl_ (some 11) Tryz.func119 #[.string s0_0] ?_; (with_reducible refine (pack_TakeText.calls k s0_0 t151 t152 t153 _ A2.out).mono ?_); rintro e w' ⟨rfl, ⟨nd, rfl⟩⟩; refine ⟨_, rfl, ?_⟩))
 go_ret
 exact ⟨by first | rfl | (simp [errW_none, errW_some] <;> rfl) | (simp [*, errW_none, errW_some] <;> rfl), by repeat (first | (with_reducible first | exact HI0.out | apply IsS206.alloc | apply IsS206.drewN | apply IsS206.drew | apply IsS206.set_0 | apply IsS206.set_1) | exact HI0.out), by repeat (first | (with_reducible first | exact HB.out | apply below_alloc | apply pw_below_drewN | apply below_drew1 | refine below_set ?_ (IsS206.ge HI0.out)) | exact HB.out), by repeat (first | (with_reducible first | exact HK.out | apply KeepBut.set_ | apply keep_drewN | apply keep_drew | apply keep_alloc) | exact HK.out)⟩
def inode_Decode.f (k : Nat) (a0 : ByteArray) : Option (Int × Int × Int × Int × ByteArray × Int) := (inode_taker_number.f k a0 false 1).bind fun bt156 => ((inode_taker_number.f k bt156.2.1 bt156.2.2 2).bind fun bt159 => ((inode_taker_number.f k bt159.2.1 bt159.2.2 4).bind fun bt162 => ((inode_taker_number.f k bt162.2.1 bt162.2.2 4).bind fun bt165 => ((inode_taker_text.f k bt165.2.1 bt165.2.2).bind fun bt168 => (if bt168.2.2 = true then (some (0, 0, 0, 0, (⟨#[]⟩ : ByteArray), 4)) else (if bt168.2.1.toList = ([] : List UInt8) then ((inode_Check.f ((bt156.1) % 256) (IntKind.u16.wrap (bt159.1)) ((bt162.1) % 4294967296) ((bt165.1) % 4294967296) bt168.1).bind fun t172 => (if t172 = 0 then (some ((bt156.1) % 256, IntKind.u16.wrap (bt159.1), (bt162.1) % 4294967296, (bt165.1) % 4294967296, bt168.1, 0)) else (some (0, 0, 0, 0, (⟨#[]⟩ : ByteArray), 4)))) else (some (0, 0, 0, 0, (⟨#[]⟩ : ByteArray), 4))))))))
theorem inode_Decode.mono : ∀ a0 k, LeO (inode_Decode.f k a0) (inode_Decode.f (k + 1) a0) := by
 intro a0 k
 unfold inode_Decode.f
 repeat' first
   | (with_reducible exact inode_taker_number.mono _ _ _ _)
   | (with_reducible exact inode_taker_text.mono _ _ _)
   | (with_reducible exact LeO.refl _)
   | (with_reducible exact LeO.none _)
   | (with_reducible refine LeO.ite ?_ ?_)
   | (with_reducible refine LeO.bind ?_ (fun _ => ?_))
   | exact inode_taker_number.mono _ _ _ _
   | exact inode_taker_text.mono _ _ _
   | exact LeO.none _
   | refine LeO.ite ?_ ?_
   | refine LeO.bind ?_ (fun _ => ?_)
set_option maxHeartbeats 8000000 in
set_option maxRecDepth 100000 in
theorem inode_Decode.calls (k : Nat) (a0 : ByteArray) (r1 : Int) (r2 : Int) (r3 : Int) (r4 : Int) (r5 : ByteArray) (r6 : Int) (w : World) (h : inode_Decode.f k a0 = some (r1, r2, r3, r4, r5, r6)) :
  Calls Tryz.prog 131 #[.string a0] w fun e w' => e = .returned (.tuple #[.agg #[.int .u8 r1, .int .u16 r2, .int .u32 r3, .int .u32 r4, .string r5], .int .i64 r6]) ∧ Below w.heap.size w w' := by
 have hu100 := Tryz.underlying100
 have hu206 := Tryz.underlying206
 have HB := ak_ (Below.refl w.heap.size w)
 have H : ((inode_taker_number.f k a0 false 1).bind fun bt156 => ((inode_taker_number.f k bt156.2.1 bt156.2.2 2).bind fun bt159 => ((inode_taker_number.f k bt159.2.1 bt159.2.2 4).bind fun bt162 => ((inode_taker_number.f k bt162.2.1 bt162.2.2 4).bind fun bt165 => ((inode_taker_text.f k bt165.2.1 bt165.2.2).bind fun bt168 => (if bt168.2.2 = true then (some (0, 0, 0, 0, (⟨#[]⟩ : ByteArray), 4)) else (if bt168.2.1.toList = ([] : List UInt8) then ((inode_Check.f ((bt156.1) % 256) (IntKind.u16.wrap (bt159.1)) ((bt162.1) % 4294967296) ((bt165.1) % 4294967296) bt168.1).bind fun t172 => (if t172 = 0 then (some ((bt156.1) % 256, IntKind.u16.wrap (bt159.1), (bt162.1) % 4294967296, (bt165.1) % 4294967296, bt168.1, 0)) else (some (0, 0, 0, 0, (⟨#[]⟩ : ByteArray), 4)))) else (some (0, 0, 0, 0, (⟨#[]⟩ : ByteArray), 4))))))))) = some (r1, r2, r3, r4, r5, r6) := h
 clear h
 replace H := Option.bind_eq_some_iff.mp H
 obtain ⟨⟨t156, t157, t158⟩, A20, H⟩ := H
 replace H : ((inode_taker_number.f k t157 t158 2).bind fun bt159 => ((inode_taker_number.f k bt159.2.1 bt159.2.2 4).bind fun bt162 => ((inode_taker_number.f k bt162.2.1 bt162.2.2 4).bind fun bt165 => ((inode_taker_text.f k bt165.2.1 bt165.2.2).bind fun bt168 => (if bt168.2.2 = true then (some (0, 0, 0, 0, (⟨#[]⟩ : ByteArray), 4)) else (if bt168.2.1.toList = ([] : List UInt8) then ((inode_Check.f ((t156) % 256) (IntKind.u16.wrap (bt159.1)) ((bt162.1) % 4294967296) ((bt165.1) % 4294967296) bt168.1).bind fun t172 => (if t172 = 0 then (some ((t156) % 256, IntKind.u16.wrap (bt159.1), (bt162.1) % 4294967296, (bt165.1) % 4294967296, bt168.1, 0)) else (some (0, 0, 0, 0, (⟨#[]⟩ : ByteArray), 4)))) else (some (0, 0, 0, 0, (⟨#[]⟩ : ByteArray), 4)))))))) = some (r1, r2, r3, r4, r5, r6) := H
 have A2 := ak_ A20
 clear A20
 replace H := Option.bind_eq_some_iff.mp H
 obtain ⟨⟨t159, t160, t161⟩, A30, H⟩ := H
 replace H : ((inode_taker_number.f k t160 t161 4).bind fun bt162 => ((inode_taker_number.f k bt162.2.1 bt162.2.2 4).bind fun bt165 => ((inode_taker_text.f k bt165.2.1 bt165.2.2).bind fun bt168 => (if bt168.2.2 = true then (some (0, 0, 0, 0, (⟨#[]⟩ : ByteArray), 4)) else (if bt168.2.1.toList = ([] : List UInt8) then ((inode_Check.f ((t156) % 256) (IntKind.u16.wrap (t159)) ((bt162.1) % 4294967296) ((bt165.1) % 4294967296) bt168.1).bind fun t172 => (if t172 = 0 then (some ((t156) % 256, IntKind.u16.wrap (t159), (bt162.1) % 4294967296, (bt165.1) % 4294967296, bt168.1, 0)) else (some (0, 0, 0, 0, (⟨#[]⟩ : ByteArray), 4)))) else (some (0, 0, 0, 0, (⟨#[]⟩ : ByteArray), 4))))))) = some (r1, r2, r3, r4, r5, r6) := H
 have A3 := ak_ A30
 clear A30
 replace H := Option.bind_eq_some_iff.mp H
 obtain ⟨⟨t162, t163, t164⟩, A40, H⟩ := H
 replace H : ((inode_taker_number.f k t163 t164 4).bind fun bt165 => ((inode_taker_text.f k bt165.2.1 bt165.2.2).bind fun bt168 => (if bt168.2.2 = true then (some (0, 0, 0, 0, (⟨#[]⟩ : ByteArray), 4)) else (if bt168.2.1.toList = ([] : List UInt8) then ((inode_Check.f ((t156) % 256) (IntKind.u16.wrap (t159)) ((t162) % 4294967296) ((bt165.1) % 4294967296) bt168.1).bind fun t172 => (if t172 = 0 then (some ((t156) % 256, IntKind.u16.wrap (t159), (t162) % 4294967296, (bt165.1) % 4294967296, bt168.1, 0)) else (some (0, 0, 0, 0, (⟨#[]⟩ : ByteArray), 4)))) else (some (0, 0, 0, 0, (⟨#[]⟩ : ByteArray), 4)))))) = some (r1, r2, r3, r4, r5, r6) := H
 have A4 := ak_ A40
 clear A40
 replace H := Option.bind_eq_some_iff.mp H
 obtain ⟨⟨t165, t166, t167⟩, A50, H⟩ := H
 replace H : ((inode_taker_text.f k t166 t167).bind fun bt168 => (if bt168.2.2 = true then (some (0, 0, 0, 0, (⟨#[]⟩ : ByteArray), 4)) else (if bt168.2.1.toList = ([] : List UInt8) then ((inode_Check.f ((t156) % 256) (IntKind.u16.wrap (t159)) ((t162) % 4294967296) ((t165) % 4294967296) bt168.1).bind fun t172 => (if t172 = 0 then (some ((t156) % 256, IntKind.u16.wrap (t159), (t162) % 4294967296, (t165) % 4294967296, bt168.1, 0)) else (some (0, 0, 0, 0, (⟨#[]⟩ : ByteArray), 4)))) else (some (0, 0, 0, 0, (⟨#[]⟩ : ByteArray), 4))))) = some (r1, r2, r3, r4, r5, r6) := H
 have A5 := ak_ A50
 clear A50
 replace H := Option.bind_eq_some_iff.mp H
 obtain ⟨⟨t168, t169, t170⟩, A60, H⟩ := H
 replace H : (if t170 = true then (some (0, 0, 0, 0, (⟨#[]⟩ : ByteArray), 4)) else (if t169.toList = ([] : List UInt8) then ((inode_Check.f ((t156) % 256) (IntKind.u16.wrap (t159)) ((t162) % 4294967296) ((t165) % 4294967296) t168).bind fun t172 => (if t172 = 0 then (some ((t156) % 256, IntKind.u16.wrap (t159), (t162) % 4294967296, (t165) % 4294967296, t168, 0)) else (some (0, 0, 0, 0, (⟨#[]⟩ : ByteArray), 4)))) else (some (0, 0, 0, 0, (⟨#[]⟩ : ByteArray), 4)))) = some (r1, r2, r3, r4, r5, r6) := H
 have A6 := ak_ A60
 clear A60
 by_cases c7 : t170 = true
 ·subst c7
  have H1 : (some (0, 0, 0, 0, (⟨#[]⟩ : ByteArray), 4)) = some (r1, r2, r3, r4, r5, r6) := by rw [if_pos rfl] at H; exact H
  clear H
  have H := H1
  clear H1
  simp only [Option.some.injEq, Prod.mk.injEq] at H
  obtain ⟨rfl, rfl, rfl, rfl, rfl, rfl⟩ := H
  go_enter Tryz.func131, Tryz.ntmps131
  go_wp2_with (first | ((with_reducible refine gate_dst (N := 2) rfl ?_); refine bx_ (N := 2) (cs := #[.int .u8 0, .int .u16 0, .int .u32 0, .int .u32 0, .string (⟨#[]⟩ : ByteArray)]) (t := 100) ?_; intro gb154 hg w8 hbox hb; have BK154 := ak_ (hbox); have GW154 := ge_ hg; have GE154 := ge_ hg; replace HB := hb_ hb; clear hb hbox hg) | ((with_reducible refine gate_dst (N := 8) rfl ?_); refine bx_ (N := 8) (cs := #[.string a0, .bool false]) (t := 206) ?_; intro gb155 hg w9 hbox hb; have BK155 := ak_ (hbox); have GW155 := ge_ hg; have GE155 := ge_ hg; have NB154_155 := nl_ BK154 hg; have NB155_154 := ng_ BK154 hg; replace BK154 := kb_ BK154 hb; replace HB := hb_ hb; clear hb hbox hg) | ((with_reducible refine gate_callee (f := 144) rfl ?_); refine gl_ (some 10) Tryz.func144 #[.pointer (some ⟨gb155, 0, none⟩), .int .i64 1] ?_; (with_reducible refine (inode_taker_number.calls k gb155 a0 false 1 t156 t157 t158 w _ ?side1 ?side2 A2.out).mono ?_); (case side1 => exact ⟨(bk_ BK155), GE155.out⟩); (case side2 => repeat (first | (with_reducible first | exact HB.out | apply below_alloc | apply pw_below_drewN | apply below_drew1 | refine below_set ?_ GE154.out | refine below_set ?_ GE155.out) | exact HB.out)); rintro e w10 ⟨rfl, hi, hb, hk⟩; refine ⟨_, rfl, ?_⟩; replace BK154 := ak_ (KeepBut.blk hk (g' := gb154) (o := .cells #[.int .u8 0, .int .u16 0, .int .u32 0, .int .u32 0, .string (⟨#[]⟩ : ByteArray)] 100 (0, 0)) (bk_ BK154) NB154_155.out (by simp)); replace HB := ak_ (hb); replace BK155 := ak_ (hi.1); (try clear hb); (try clear hb2); (try clear hk); (try clear hi)) | ((with_reducible refine gate_callee (f := 144) rfl ?_); refine gl_ (some 13) Tryz.func144 #[.pointer (some ⟨gb155, 0, none⟩), .int .i64 2] ?_; (with_reducible refine (inode_taker_number.calls k gb155 t157 t158 2 t159 t160 t161 w _ ?side1 ?side2 A3.out).mono ?_); (case side1 => exact ⟨(bk_ BK155), GE155.out⟩); (case side2 => repeat (first | (with_reducible first | exact HB.out | apply below_alloc | apply pw_below_drewN | apply below_drew1 | refine below_set ?_ GE154.out | refine below_set ?_ GE155.out) | exact HB.out)); rintro e w11 ⟨rfl, hi, hb, hk⟩; refine ⟨_, rfl, ?_⟩; replace BK154 := ak_ (KeepBut.blk hk (g' := gb154) (o := .cells #[.int .u8 0, .int .u16 0, .int .u32 0, .int .u32 0, .string (⟨#[]⟩ : ByteArray)] 100 (0, 0)) (bk_ BK154) NB154_155.out (by simp)); replace HB := ak_ (hb); replace BK155 := ak_ (hi.1); (try clear hb); (try clear hb2); (try clear hk); (try clear hi)) | ((with_reducible refine gate_callee (f := 144) rfl ?_); refine gl_ (some 16) Tryz.func144 #[.pointer (some ⟨gb155, 0, none⟩), .int .i64 4] ?_; (with_reducible refine (inode_taker_number.calls k gb155 t160 t161 4 t162 t163 t164 w _ ?side1 ?side2 A4.out).mono ?_); (case side1 => exact ⟨(bk_ BK155), GE155.out⟩); (case side2 => repeat (first | (with_reducible first | exact HB.out | apply below_alloc | apply pw_below_drewN | apply below_drew1 | refine below_set ?_ GE154.out | refine below_set ?_ GE155.out) | exact HB.out)); rintro e w12 ⟨rfl, hi, hb, hk⟩; refine ⟨_, rfl, ?_⟩; replace BK154 := ak_ (KeepBut.blk hk (g' := gb154) (o := .cells #[.int .u8 0, .int .u16 0, .int .u32 0, .int .u32 0, .string (⟨#[]⟩ : ByteArray)] 100 (0, 0)) (bk_ BK154) NB154_155.out (by simp)); replace HB := ak_ (hb); replace BK155 := ak_ (hi.1); (try clear hb); (try clear hb2); (try clear hk); (try clear hi)) | ((with_reducible refine gate_callee (f := 144) rfl ?_); refine gl_ (some 19) Tryz.func144 #[.pointer (some ⟨gb155, 0, none⟩), .int .i64 4] ?_; (with_reducible refine (inode_taker_number.calls k gb155 t163 t164 4 t165 t166 t167 w _ ?side1 ?side2 A5.out).mono ?_); (case side1 => exact ⟨(bk_ BK155), GE155.out⟩); (case side2 => repeat (first | (with_reducible first | exact HB.out | apply below_alloc | apply pw_below_drewN | apply below_drew1 | refine below_set ?_ GE154.out | refine below_set ?_ GE155.out) | exact HB.out)); rintro e w13 ⟨rfl, hi, hb, hk⟩; refine ⟨_, rfl, ?_⟩; replace BK154 := ak_ (KeepBut.blk hk (g' := gb154) (o := .cells #[.int .u8 0, .int .u16 0, .int .u32 0, .int .u32 0, .string (⟨#[]⟩ : ByteArray)] 100 (0, 0)) (bk_ BK154) NB154_155.out (by simp)); replace HB := ak_ (hb); replace BK155 := ak_ (hi.1); (try clear hb); (try clear hb2); (try clear hk); (try clear hi)) | ((with_reducible refine gate_callee (f := 145) rfl ?_); refine gl_ (some 22) Tryz.func145 #[.pointer (some ⟨gb155, 0, none⟩)] ?_; (with_reducible refine (inode_taker_text.calls k gb155 t166 t167 t168 t169 true w _ ?side1 ?side2 A6.out).mono ?_); (case side1 => exact ⟨(bk_ BK155), GE155.out⟩); (case side2 => repeat (first | (with_reducible first | exact HB.out | apply below_alloc | apply pw_below_drewN | apply below_drew1 | refine below_set ?_ GE154.out | refine below_set ?_ GE155.out) | exact HB.out)); rintro e w14 ⟨rfl, hi, hb, hk⟩; refine ⟨_, rfl, ?_⟩; replace BK154 := ak_ (KeepBut.blk hk (g' := gb154) (o := .cells #[.int .u8 0, .int .u16 0, .int .u32 0, .int .u32 0, .string (⟨#[]⟩ : ByteArray)] 100 (0, 0)) (bk_ BK154) NB154_155.out (by simp)); replace HB := ak_ (hb); replace BK155 := ak_ (hi.1); (try clear hb); (try clear hb2); (try clear hk); (try clear hi)) | ((with_reducible refine gate_dst (N := 5) rfl ?_); refine bx_ (N := 5) (cs := #[.int .u8 0, .int .u16 0, .int .u32 0, .int .u32 0, .string (⟨#[]⟩ : ByteArray)]) (t := 100) ?_; intro gb171 hg w15 hbox hb; have BK171 := ak_ (hbox); have GW171 := ge_ hg; have GE171 := ge_ hg; have NB154_171 := nl_ BK154 hg; have NB171_154 := ng_ BK154 hg; have NB155_171 := nl_ BK155 hg; have NB171_155 := ng_ BK155 hg; replace BK154 := kb_ BK154 hb; replace BK155 := kb_ BK155 hb; replace HB := hb_ hb; clear hb hbox hg; have hnb16 := NB171_154.out; have hnc16 := NB154_171.out; have hnb17 := NB171_155.out; have hnc17 := NB155_171.out; obtain ⟨hcz18_0, hcz18_1, hcz18_2, hcz18_3, hcz18_4⟩ := cl5_ BK171; obtain ⟨hfz18_0, hfz18_1, hfz18_2, hfz18_3, hfz18_4⟩ := fz5_ BK171; have hnb19 := NB155_154.out; have hnc19 := NB154_155.out; obtain ⟨hcz20_0, hcz20_1⟩ := cl2_ BK155; obtain ⟨hfz20_0, hfz20_1⟩ := fz2_ BK155; obtain ⟨hcz21_0, hcz21_1, hcz21_2, hcz21_3, hcz21_4⟩ := cl5_ BK154; obtain ⟨hfz21_0, hfz21_1, hfz21_2, hfz21_3, hfz21_4⟩ := fz5_ BK154))
  refine bodyPost_ret (results_ct rfl _ _ gb154 100 #[.int .u8 0, .int .u16 0, .int .u32 0, .int .u32 0, .string (⟨#[]⟩ : ByteArray)] (0, 0) _ rfl (bs_) Tryz.underlying100 rfl (by kernel_rfl)) rfl ?_
  exact ⟨by first | rfl | (simp [errW_none, errW_some] <;> rfl) | (simp [*, errW_none, errW_some] <;> rfl), bel_⟩
 replace c7 := Bool.eq_false_iff.mpr c7
 subst c7
 have H1 : (if t169.toList = ([] : List UInt8) then ((inode_Check.f ((t156) % 256) (IntKind.u16.wrap (t159)) ((t162) % 4294967296) ((t165) % 4294967296) t168).bind fun t172 => (if t172 = 0 then (some ((t156) % 256, IntKind.u16.wrap (t159), (t162) % 4294967296, (t165) % 4294967296, t168, 0)) else (some (0, 0, 0, 0, (⟨#[]⟩ : ByteArray), 4)))) else (some (0, 0, 0, 0, (⟨#[]⟩ : ByteArray), 4))) = some (r1, r2, r3, r4, r5, r6) := by rw [if_neg (show ¬ (false = true) by decide)] at H; exact H
 clear H
 have H := H1
 clear H1
 by_cases c22 : t169.toList = ([] : List UInt8)
 ·rw [if_pos c22] at H
  have c22b0 : (t169.toList == ([] : List UInt8)) = true := beq_iff_eq.mpr c22
  have c22b1 : (t169.toList != ([] : List UInt8)) = false := bne_eq_false_iff_eq.mpr c22
  clear c22
  replace H := Option.bind_eq_some_iff.mp H
  obtain ⟨t172, A230, H⟩ := H
  replace H : (if t172 = 0 then (some ((t156) % 256, IntKind.u16.wrap (t159), (t162) % 4294967296, (t165) % 4294967296, t168, 0)) else (some (0, 0, 0, 0, (⟨#[]⟩ : ByteArray), 4))) = some (r1, r2, r3, r4, r5, r6) := H
  have A23 := ak_ A230
  clear A230
  by_cases c24 : t172 = 0
  ·rw [if_pos c24] at H
   have c24b0 : (t172 == 0) = true := beq_iff_eq.mpr c24
   have c24b1 : (t172 != 0) = false := bne_eq_false_iff_eq.mpr c24
   clear c24
   simp only [Option.some.injEq, Prod.mk.injEq] at H
   obtain ⟨rfl, rfl, rfl, rfl, rfl, rfl⟩ := H
   go_enter Tryz.func131, Tryz.ntmps131
   go_wp2_with (first | ((with_reducible refine gate_dst (N := 2) rfl ?_); refine bx_ (N := 2) (cs := #[.int .u8 0, .int .u16 0, .int .u32 0, .int .u32 0, .string (⟨#[]⟩ : ByteArray)]) (t := 100) ?_; intro gb154 hg w25 hbox hb; have BK154 := ak_ (hbox); have GW154 := ge_ hg; have GE154 := ge_ hg; replace HB := hb_ hb; clear hb hbox hg) | ((with_reducible refine gate_dst (N := 8) rfl ?_); refine bx_ (N := 8) (cs := #[.string a0, .bool false]) (t := 206) ?_; intro gb155 hg w26 hbox hb; have BK155 := ak_ (hbox); have GW155 := ge_ hg; have GE155 := ge_ hg; have NB154_155 := nl_ BK154 hg; have NB155_154 := ng_ BK154 hg; replace BK154 := kb_ BK154 hb; replace HB := hb_ hb; clear hb hbox hg) | ((with_reducible refine gate_callee (f := 144) rfl ?_); refine gl_ (some 10) Tryz.func144 #[.pointer (some ⟨gb155, 0, none⟩), .int .i64 1] ?_; (with_reducible refine (inode_taker_number.calls k gb155 a0 false 1 t156 t157 t158 w _ ?side1 ?side2 A2.out).mono ?_); (case side1 => exact ⟨(bk_ BK155), GE155.out⟩); (case side2 => repeat (first | (with_reducible first | exact HB.out | apply below_alloc | apply pw_below_drewN | apply below_drew1 | refine below_set ?_ GE154.out | refine below_set ?_ GE155.out) | exact HB.out)); rintro e w27 ⟨rfl, hi, hb, hk⟩; refine ⟨_, rfl, ?_⟩; replace BK154 := ak_ (KeepBut.blk hk (g' := gb154) (o := .cells #[.int .u8 0, .int .u16 0, .int .u32 0, .int .u32 0, .string (⟨#[]⟩ : ByteArray)] 100 (0, 0)) (bk_ BK154) NB154_155.out (by simp)); replace HB := ak_ (hb); replace BK155 := ak_ (hi.1); (try clear hb); (try clear hb2); (try clear hk); (try clear hi)) | ((with_reducible refine gate_callee (f := 144) rfl ?_); refine gl_ (some 13) Tryz.func144 #[.pointer (some ⟨gb155, 0, none⟩), .int .i64 2] ?_; (with_reducible refine (inode_taker_number.calls k gb155 t157 t158 2 t159 t160 t161 w _ ?side1 ?side2 A3.out).mono ?_); (case side1 => exact ⟨(bk_ BK155), GE155.out⟩); (case side2 => repeat (first | (with_reducible first | exact HB.out | apply below_alloc | apply pw_below_drewN | apply below_drew1 | refine below_set ?_ GE154.out | refine below_set ?_ GE155.out) | exact HB.out)); rintro e w28 ⟨rfl, hi, hb, hk⟩; refine ⟨_, rfl, ?_⟩; replace BK154 := ak_ (KeepBut.blk hk (g' := gb154) (o := .cells #[.int .u8 0, .int .u16 0, .int .u32 0, .int .u32 0, .string (⟨#[]⟩ : ByteArray)] 100 (0, 0)) (bk_ BK154) NB154_155.out (by simp)); replace HB := ak_ (hb); replace BK155 := ak_ (hi.1); (try clear hb); (try clear hb2); (try clear hk); (try clear hi)) | ((with_reducible refine gate_callee (f := 144) rfl ?_); refine gl_ (some 16) Tryz.func144 #[.pointer (some ⟨gb155, 0, none⟩), .int .i64 4] ?_; (with_reducible refine (inode_taker_number.calls k gb155 t160 t161 4 t162 t163 t164 w _ ?side1 ?side2 A4.out).mono ?_); (case side1 => exact ⟨(bk_ BK155), GE155.out⟩); (case side2 => repeat (first | (with_reducible first | exact HB.out | apply below_alloc | apply pw_below_drewN | apply below_drew1 | refine below_set ?_ GE154.out | refine below_set ?_ GE155.out) | exact HB.out)); rintro e w29 ⟨rfl, hi, hb, hk⟩; refine ⟨_, rfl, ?_⟩; replace BK154 := ak_ (KeepBut.blk hk (g' := gb154) (o := .cells #[.int .u8 0, .int .u16 0, .int .u32 0, .int .u32 0, .string (⟨#[]⟩ : ByteArray)] 100 (0, 0)) (bk_ BK154) NB154_155.out (by simp)); replace HB := ak_ (hb); replace BK155 := ak_ (hi.1); (try clear hb); (try clear hb2); (try clear hk); (try clear hi)) | ((with_reducible refine gate_callee (f := 144) rfl ?_); refine gl_ (some 19) Tryz.func144 #[.pointer (some ⟨gb155, 0, none⟩), .int .i64 4] ?_; (with_reducible refine (inode_taker_number.calls k gb155 t163 t164 4 t165 t166 t167 w _ ?side1 ?side2 A5.out).mono ?_); (case side1 => exact ⟨(bk_ BK155), GE155.out⟩); (case side2 => repeat (first | (with_reducible first | exact HB.out | apply below_alloc | apply pw_below_drewN | apply below_drew1 | refine below_set ?_ GE154.out | refine below_set ?_ GE155.out) | exact HB.out)); rintro e w30 ⟨rfl, hi, hb, hk⟩; refine ⟨_, rfl, ?_⟩; replace BK154 := ak_ (KeepBut.blk hk (g' := gb154) (o := .cells #[.int .u8 0, .int .u16 0, .int .u32 0, .int .u32 0, .string (⟨#[]⟩ : ByteArray)] 100 (0, 0)) (bk_ BK154) NB154_155.out (by simp)); replace HB := ak_ (hb); replace BK155 := ak_ (hi.1); (try clear hb); (try clear hb2); (try clear hk); (try clear hi)) | ((with_reducible refine gate_callee (f := 145) rfl ?_); refine gl_ (some 22) Tryz.func145 #[.pointer (some ⟨gb155, 0, none⟩)] ?_; (with_reducible refine (inode_taker_text.calls k gb155 t166 t167 t168 t169 false w _ ?side1 ?side2 A6.out).mono ?_); (case side1 => exact ⟨(bk_ BK155), GE155.out⟩); (case side2 => repeat (first | (with_reducible first | exact HB.out | apply below_alloc | apply pw_below_drewN | apply below_drew1 | refine below_set ?_ GE154.out | refine below_set ?_ GE155.out) | exact HB.out)); rintro e w31 ⟨rfl, hi, hb, hk⟩; refine ⟨_, rfl, ?_⟩; replace BK154 := ak_ (KeepBut.blk hk (g' := gb154) (o := .cells #[.int .u8 0, .int .u16 0, .int .u32 0, .int .u32 0, .string (⟨#[]⟩ : ByteArray)] 100 (0, 0)) (bk_ BK154) NB154_155.out (by simp)); replace HB := ak_ (hb); replace BK155 := ak_ (hi.1); (try clear hb); (try clear hb2); (try clear hk); (try clear hi)) | ((with_reducible refine gate_dst (N := 5) rfl ?_); refine bx_ (N := 5) (cs := #[.int .u8 0, .int .u16 0, .int .u32 0, .int .u32 0, .string (⟨#[]⟩ : ByteArray)]) (t := 100) ?_; intro gb171 hg w32 hbox hb; have BK171 := ak_ (hbox); have GW171 := ge_ hg; have GE171 := ge_ hg; have NB154_171 := nl_ BK154 hg; have NB171_154 := ng_ BK154 hg; have NB155_171 := nl_ BK155 hg; have NB171_155 := ng_ BK155 hg; replace BK154 := kb_ BK154 hb; replace BK155 := kb_ BK155 hb; replace HB := hb_ hb; clear hb hbox hg; have hnb33 := NB171_154.out; have hnc33 := NB154_171.out; have hnb34 := NB171_155.out; have hnc34 := NB155_171.out; obtain ⟨hcz35_0, hcz35_1, hcz35_2, hcz35_3, hcz35_4⟩ := cl5_ BK171; obtain ⟨hfz35_0, hfz35_1, hfz35_2, hfz35_3, hfz35_4⟩ := fz5_ BK171; have hnb36 := NB155_154.out; have hnc36 := NB154_155.out; obtain ⟨hcz37_0, hcz37_1⟩ := cl2_ BK155; obtain ⟨hfz37_0, hfz37_1⟩ := fz2_ BK155) | (go_at_call 104; (with_reducible refine (inode_Check.calls ((t156) % 256) (IntKind.u16.wrap (t159)) ((t162) % 4294967296) ((t165) % 4294967296) t168 t172 _ A23.out).mono ?_); rintro e w38 ⟨rfl, hb⟩; replace BK154 := ak_ (blk_below (g := gb154) (o := .cells #[.int .u8 0, .int .u16 0, .int .u32 0, .int .u32 0, .string (⟨#[]⟩ : ByteArray)] 100 (0, 0)) (bs_) hb); replace BK155 := ak_ (blk_below (g := gb155) (o := .cells #[.string t169, .bool false] 206 (0, 0)) (bs_) hb); replace BK171 := ak_ (blk_below (g := gb171) (o := .cells #[.int .u8 ((t156) % 256), .int .u16 (IntKind.u16.wrap (t159)), .int .u32 ((t162) % 4294967296), .int .u32 ((t165) % 4294967296), .string t168] 100 (0, 0)) (bs_) hb); replace HB := hb_ hb; (try clear hb); (try clear hb2); (try clear hk); (try clear hi); obtain ⟨hcz39_0, hcz39_1, hcz39_2, hcz39_3, hcz39_4⟩ := cl5_ BK171; obtain ⟨hfz39_0, hfz39_1, hfz39_2, hfz39_3, hfz39_4⟩ := fz5_ BK171; obtain ⟨hcz40_0, hcz40_1, hcz40_2, hcz40_3, hcz40_4⟩ := cl5_ BK154; obtain ⟨hfz40_0, hfz40_1, hfz40_2, hfz40_3, hfz40_4⟩ := fz5_ BK154))
   refine bodyPost_ret (results_ct rfl _ _ gb154 100 #[.int .u8 ((t156) % 256), .int .u16 (IntKind.u16.wrap (t159)), .int .u32 ((t162) % 4294967296), .int .u32 ((t165) % 4294967296), .string t168] (0, 0) _ rfl (bs_) Tryz.underlying100 rfl (by kernel_rfl)) rfl ?_
   exact ⟨by first | rfl | (simp [errW_none, errW_some] <;> rfl) | (simp [*, errW_none, errW_some] <;> rfl), bel_⟩
  rw [if_neg c24] at H
  have c24b0 : (t172 == 0) = false := beq_eq_false_iff_ne.mpr c24
  have c24b1 : (t172 != 0) = true := bne_iff_ne.mpr c24
  simp only [Option.some.injEq, Prod.mk.injEq] at H
  obtain ⟨rfl, rfl, rfl, rfl, rfl, rfl⟩ := H
  go_enter Tryz.func131, Tryz.ntmps131
  go_wp2_with (first | ((with_reducible refine gate_dst (N := 2) rfl ?_); refine bx_ (N := 2) (cs := #[.int .u8 0, .int .u16 0, .int .u32 0, .int .u32 0, .string (⟨#[]⟩ : ByteArray)]) (t := 100) ?_; intro gb154 hg w41 hbox hb; have BK154 := ak_ (hbox); have GW154 := ge_ hg; have GE154 := ge_ hg; replace HB := hb_ hb; clear hb hbox hg) | ((with_reducible refine gate_dst (N := 8) rfl ?_); refine bx_ (N := 8) (cs := #[.string a0, .bool false]) (t := 206) ?_; intro gb155 hg w42 hbox hb; have BK155 := ak_ (hbox); have GW155 := ge_ hg; have GE155 := ge_ hg; have NB154_155 := nl_ BK154 hg; have NB155_154 := ng_ BK154 hg; replace BK154 := kb_ BK154 hb; replace HB := hb_ hb; clear hb hbox hg) | ((with_reducible refine gate_callee (f := 144) rfl ?_); refine gl_ (some 10) Tryz.func144 #[.pointer (some ⟨gb155, 0, none⟩), .int .i64 1] ?_; (with_reducible refine (inode_taker_number.calls k gb155 a0 false 1 t156 t157 t158 w _ ?side1 ?side2 A2.out).mono ?_); (case side1 => exact ⟨(bk_ BK155), GE155.out⟩); (case side2 => repeat (first | (with_reducible first | exact HB.out | apply below_alloc | apply pw_below_drewN | apply below_drew1 | refine below_set ?_ GE154.out | refine below_set ?_ GE155.out) | exact HB.out)); rintro e w43 ⟨rfl, hi, hb, hk⟩; refine ⟨_, rfl, ?_⟩; replace BK154 := ak_ (KeepBut.blk hk (g' := gb154) (o := .cells #[.int .u8 0, .int .u16 0, .int .u32 0, .int .u32 0, .string (⟨#[]⟩ : ByteArray)] 100 (0, 0)) (bk_ BK154) NB154_155.out (by simp)); replace HB := ak_ (hb); replace BK155 := ak_ (hi.1); (try clear hb); (try clear hb2); (try clear hk); (try clear hi)) | ((with_reducible refine gate_callee (f := 144) rfl ?_); refine gl_ (some 13) Tryz.func144 #[.pointer (some ⟨gb155, 0, none⟩), .int .i64 2] ?_; (with_reducible refine (inode_taker_number.calls k gb155 t157 t158 2 t159 t160 t161 w _ ?side1 ?side2 A3.out).mono ?_); (case side1 => exact ⟨(bk_ BK155), GE155.out⟩); (case side2 => repeat (first | (with_reducible first | exact HB.out | apply below_alloc | apply pw_below_drewN | apply below_drew1 | refine below_set ?_ GE154.out | refine below_set ?_ GE155.out) | exact HB.out)); rintro e w44 ⟨rfl, hi, hb, hk⟩; refine ⟨_, rfl, ?_⟩; replace BK154 := ak_ (KeepBut.blk hk (g' := gb154) (o := .cells #[.int .u8 0, .int .u16 0, .int .u32 0, .int .u32 0, .string (⟨#[]⟩ : ByteArray)] 100 (0, 0)) (bk_ BK154) NB154_155.out (by simp)); replace HB := ak_ (hb); replace BK155 := ak_ (hi.1); (try clear hb); (try clear hb2); (try clear hk); (try clear hi)) | ((with_reducible refine gate_callee (f := 144) rfl ?_); refine gl_ (some 16) Tryz.func144 #[.pointer (some ⟨gb155, 0, none⟩), .int .i64 4] ?_; (with_reducible refine (inode_taker_number.calls k gb155 t160 t161 4 t162 t163 t164 w _ ?side1 ?side2 A4.out).mono ?_); (case side1 => exact ⟨(bk_ BK155), GE155.out⟩); (case side2 => repeat (first | (with_reducible first | exact HB.out | apply below_alloc | apply pw_below_drewN | apply below_drew1 | refine below_set ?_ GE154.out | refine below_set ?_ GE155.out) | exact HB.out)); rintro e w45 ⟨rfl, hi, hb, hk⟩; refine ⟨_, rfl, ?_⟩; replace BK154 := ak_ (KeepBut.blk hk (g' := gb154) (o := .cells #[.int .u8 0, .int .u16 0, .int .u32 0, .int .u32 0, .string (⟨#[]⟩ : ByteArray)] 100 (0, 0)) (bk_ BK154) NB154_155.out (by simp)); replace HB := ak_ (hb); replace BK155 := ak_ (hi.1); (try clear hb); (try clear hb2); (try clear hk); (try clear hi)) | ((with_reducible refine gate_callee (f := 144) rfl ?_); refine gl_ (some 19) Tryz.func144 #[.pointer (some ⟨gb155, 0, none⟩), .int .i64 4] ?_; (with_reducible refine (inode_taker_number.calls k gb155 t163 t164 4 t165 t166 t167 w _ ?side1 ?side2 A5.out).mono ?_); (case side1 => exact ⟨(bk_ BK155), GE155.out⟩); (case side2 => repeat (first | (with_reducible first | exact HB.out | apply below_alloc | apply pw_below_drewN | apply below_drew1 | refine below_set ?_ GE154.out | refine below_set ?_ GE155.out) | exact HB.out)); rintro e w46 ⟨rfl, hi, hb, hk⟩; refine ⟨_, rfl, ?_⟩; replace BK154 := ak_ (KeepBut.blk hk (g' := gb154) (o := .cells #[.int .u8 0, .int .u16 0, .int .u32 0, .int .u32 0, .string (⟨#[]⟩ : ByteArray)] 100 (0, 0)) (bk_ BK154) NB154_155.out (by simp)); replace HB := ak_ (hb); replace BK155 := ak_ (hi.1); (try clear hb); (try clear hb2); (try clear hk); (try clear hi)) | ((with_reducible refine gate_callee (f := 145) rfl ?_); refine gl_ (some 22) Tryz.func145 #[.pointer (some ⟨gb155, 0, none⟩)] ?_; (with_reducible refine (inode_taker_text.calls k gb155 t166 t167 t168 t169 false w _ ?side1 ?side2 A6.out).mono ?_); (case side1 => exact ⟨(bk_ BK155), GE155.out⟩); (case side2 => repeat (first | (with_reducible first | exact HB.out | apply below_alloc | apply pw_below_drewN | apply below_drew1 | refine below_set ?_ GE154.out | refine below_set ?_ GE155.out) | exact HB.out)); rintro e w47 ⟨rfl, hi, hb, hk⟩; refine ⟨_, rfl, ?_⟩; replace BK154 := ak_ (KeepBut.blk hk (g' := gb154) (o := .cells #[.int .u8 0, .int .u16 0, .int .u32 0, .int .u32 0, .string (⟨#[]⟩ : ByteArray)] 100 (0, 0)) (bk_ BK154) NB154_155.out (by simp)); replace HB := ak_ (hb); replace BK155 := ak_ (hi.1); (try clear hb); (try clear hb2); (try clear hk); (try clear hi)) | ((with_reducible refine gate_dst (N := 5) rfl ?_); refine bx_ (N := 5) (cs := #[.int .u8 0, .int .u16 0, .int .u32 0, .int .u32 0, .string (⟨#[]⟩ : ByteArray)]) (t := 100) ?_; intro gb171 hg w48 hbox hb; have BK171 := ak_ (hbox); have GW171 := ge_ hg; have GE171 := ge_ hg; have NB154_171 := nl_ BK154 hg; have NB171_154 := ng_ BK154 hg; have NB155_171 := nl_ BK155 hg; have NB171_155 := ng_ BK155 hg; replace BK154 := kb_ BK154 hb; replace BK155 := kb_ BK155 hb; replace HB := hb_ hb; clear hb hbox hg; have hnb49 := NB171_154.out; have hnc49 := NB154_171.out; have hnb50 := NB171_155.out; have hnc50 := NB155_171.out; obtain ⟨hcz51_0, hcz51_1, hcz51_2, hcz51_3, hcz51_4⟩ := cl5_ BK171; obtain ⟨hfz51_0, hfz51_1, hfz51_2, hfz51_3, hfz51_4⟩ := fz5_ BK171; have hnb52 := NB155_154.out; have hnc52 := NB154_155.out; obtain ⟨hcz53_0, hcz53_1⟩ := cl2_ BK155; obtain ⟨hfz53_0, hfz53_1⟩ := fz2_ BK155) | (go_at_call 104; (with_reducible refine (inode_Check.calls ((t156) % 256) (IntKind.u16.wrap (t159)) ((t162) % 4294967296) ((t165) % 4294967296) t168 t172 _ A23.out).mono ?_); rintro e w54 ⟨rfl, hb⟩; replace BK154 := ak_ (blk_below (g := gb154) (o := .cells #[.int .u8 0, .int .u16 0, .int .u32 0, .int .u32 0, .string (⟨#[]⟩ : ByteArray)] 100 (0, 0)) (bs_) hb); replace BK155 := ak_ (blk_below (g := gb155) (o := .cells #[.string t169, .bool false] 206 (0, 0)) (bs_) hb); replace BK171 := ak_ (blk_below (g := gb171) (o := .cells #[.int .u8 ((t156) % 256), .int .u16 (IntKind.u16.wrap (t159)), .int .u32 ((t162) % 4294967296), .int .u32 ((t165) % 4294967296), .string t168] 100 (0, 0)) (bs_) hb); replace HB := hb_ hb; (try clear hb); (try clear hb2); (try clear hk); (try clear hi); obtain ⟨hcz55_0, hcz55_1, hcz55_2, hcz55_3, hcz55_4⟩ := cl5_ BK154; obtain ⟨hfz55_0, hfz55_1, hfz55_2, hfz55_3, hfz55_4⟩ := fz5_ BK154))
  refine bodyPost_ret (results_ct rfl _ _ gb154 100 #[.int .u8 0, .int .u16 0, .int .u32 0, .int .u32 0, .string (⟨#[]⟩ : ByteArray)] (0, 0) _ rfl (bs_) Tryz.underlying100 rfl (by kernel_rfl)) rfl ?_
  exact ⟨by first | rfl | (simp [errW_none, errW_some] <;> rfl) | (simp [*, errW_none, errW_some] <;> rfl), bel_⟩
 rw [if_neg c22] at H
 have c22b0 : (t169.toList == ([] : List UInt8)) = false := beq_eq_false_iff_ne.mpr c22
 have c22b1 : (t169.toList != ([] : List UInt8)) = true := bne_iff_ne.mpr c22
 simp only [Option.some.injEq, Prod.mk.injEq] at H
 obtain ⟨rfl, rfl, rfl, rfl, rfl, rfl⟩ := H
 go_enter Tryz.func131, Tryz.ntmps131
 go_wp2_with (first | ((with_reducible refine gate_dst (N := 2) rfl ?_); refine bx_ (N := 2) (cs := #[.int .u8 0, .int .u16 0, .int .u32 0, .int .u32 0, .string (⟨#[]⟩ : ByteArray)]) (t := 100) ?_; intro gb154 hg w56 hbox hb; have BK154 := ak_ (hbox); have GW154 := ge_ hg; have GE154 := ge_ hg; replace HB := hb_ hb; clear hb hbox hg) | ((with_reducible refine gate_dst (N := 8) rfl ?_); refine bx_ (N := 8) (cs := #[.string a0, .bool false]) (t := 206) ?_; intro gb155 hg w57 hbox hb; have BK155 := ak_ (hbox); have GW155 := ge_ hg; have GE155 := ge_ hg; have NB154_155 := nl_ BK154 hg; have NB155_154 := ng_ BK154 hg; replace BK154 := kb_ BK154 hb; replace HB := hb_ hb; clear hb hbox hg) | ((with_reducible refine gate_callee (f := 144) rfl ?_); refine gl_ (some 10) Tryz.func144 #[.pointer (some ⟨gb155, 0, none⟩), .int .i64 1] ?_; (with_reducible refine (inode_taker_number.calls k gb155 a0 false 1 t156 t157 t158 w _ ?side1 ?side2 A2.out).mono ?_); (case side1 => exact ⟨(bk_ BK155), GE155.out⟩); (case side2 => repeat (first | (with_reducible first | exact HB.out | apply below_alloc | apply pw_below_drewN | apply below_drew1 | refine below_set ?_ GE154.out | refine below_set ?_ GE155.out) | exact HB.out)); rintro e w58 ⟨rfl, hi, hb, hk⟩; refine ⟨_, rfl, ?_⟩; replace BK154 := ak_ (KeepBut.blk hk (g' := gb154) (o := .cells #[.int .u8 0, .int .u16 0, .int .u32 0, .int .u32 0, .string (⟨#[]⟩ : ByteArray)] 100 (0, 0)) (bk_ BK154) NB154_155.out (by simp)); replace HB := ak_ (hb); replace BK155 := ak_ (hi.1); (try clear hb); (try clear hb2); (try clear hk); (try clear hi)) | ((with_reducible refine gate_callee (f := 144) rfl ?_); refine gl_ (some 13) Tryz.func144 #[.pointer (some ⟨gb155, 0, none⟩), .int .i64 2] ?_; (with_reducible refine (inode_taker_number.calls k gb155 t157 t158 2 t159 t160 t161 w _ ?side1 ?side2 A3.out).mono ?_); (case side1 => exact ⟨(bk_ BK155), GE155.out⟩); (case side2 => repeat (first | (with_reducible first | exact HB.out | apply below_alloc | apply pw_below_drewN | apply below_drew1 | refine below_set ?_ GE154.out | refine below_set ?_ GE155.out) | exact HB.out)); rintro e w59 ⟨rfl, hi, hb, hk⟩; refine ⟨_, rfl, ?_⟩; replace BK154 := ak_ (KeepBut.blk hk (g' := gb154) (o := .cells #[.int .u8 0, .int .u16 0, .int .u32 0, .int .u32 0, .string (⟨#[]⟩ : ByteArray)] 100 (0, 0)) (bk_ BK154) NB154_155.out (by simp)); replace HB := ak_ (hb); replace BK155 := ak_ (hi.1); (try clear hb); (try clear hb2); (try clear hk); (try clear hi)) | ((with_reducible refine gate_callee (f := 144) rfl ?_); refine gl_ (some 16) Tryz.func144 #[.pointer (some ⟨gb155, 0, none⟩), .int .i64 4] ?_; (with_reducible refine (inode_taker_number.calls k gb155 t160 t161 4 t162 t163 t164 w _ ?side1 ?side2 A4.out).mono ?_); (case side1 => exact ⟨(bk_ BK155), GE155.out⟩); (case side2 => repeat (first | (with_reducible first | exact HB.out | apply below_alloc | apply pw_below_drewN | apply below_drew1 | refine below_set ?_ GE154.out | refine below_set ?_ GE155.out) | exact HB.out)); rintro e w60 ⟨rfl, hi, hb, hk⟩; refine ⟨_, rfl, ?_⟩; replace BK154 := ak_ (KeepBut.blk hk (g' := gb154) (o := .cells #[.int .u8 0, .int .u16 0, .int .u32 0, .int .u32 0, .string (⟨#[]⟩ : ByteArray)] 100 (0, 0)) (bk_ BK154) NB154_155.out (by simp)); replace HB := ak_ (hb); replace BK155 := ak_ (hi.1); (try clear hb); (try clear hb2); (try clear hk); (try clear hi)) | ((with_reducible refine gate_callee (f := 144) rfl ?_); refine gl_ (some 19) Tryz.func144 #[.pointer (some ⟨gb155, 0, none⟩), .int .i64 4] ?_; (with_reducible refine (inode_taker_number.calls k gb155 t163 t164 4 t165 t166 t167 w _ ?side1 ?side2 A5.out).mono ?_); (case side1 => exact ⟨(bk_ BK155), GE155.out⟩); (case side2 => repeat (first | (with_reducible first | exact HB.out | apply below_alloc | apply pw_below_drewN | apply below_drew1 | refine below_set ?_ GE154.out | refine below_set ?_ GE155.out) | exact HB.out)); rintro e w61 ⟨rfl, hi, hb, hk⟩; refine ⟨_, rfl, ?_⟩; replace BK154 := ak_ (KeepBut.blk hk (g' := gb154) (o := .cells #[.int .u8 0, .int .u16 0, .int .u32 0, .int .u32 0, .string (⟨#[]⟩ : ByteArray)] 100 (0, 0)) (bk_ BK154) NB154_155.out (by simp)); replace HB := ak_ (hb); replace BK155 := ak_ (hi.1); (try clear hb); (try clear hb2); (try clear hk); (try clear hi)) | ((with_reducible refine gate_callee (f := 145) rfl ?_); refine gl_ (some 22) Tryz.func145 #[.pointer (some ⟨gb155, 0, none⟩)] ?_; (with_reducible refine (inode_taker_text.calls k gb155 t166 t167 t168 t169 false w _ ?side1 ?side2 A6.out).mono ?_); (case side1 => exact ⟨(bk_ BK155), GE155.out⟩); (case side2 => repeat (first | (with_reducible first | exact HB.out | apply below_alloc | apply pw_below_drewN | apply below_drew1 | refine below_set ?_ GE154.out | refine below_set ?_ GE155.out) | exact HB.out)); rintro e w62 ⟨rfl, hi, hb, hk⟩; refine ⟨_, rfl, ?_⟩; replace BK154 := ak_ (KeepBut.blk hk (g' := gb154) (o := .cells #[.int .u8 0, .int .u16 0, .int .u32 0, .int .u32 0, .string (⟨#[]⟩ : ByteArray)] 100 (0, 0)) (bk_ BK154) NB154_155.out (by simp)); replace HB := ak_ (hb); replace BK155 := ak_ (hi.1); (try clear hb); (try clear hb2); (try clear hk); (try clear hi)) | ((with_reducible refine gate_dst (N := 5) rfl ?_); refine bx_ (N := 5) (cs := #[.int .u8 0, .int .u16 0, .int .u32 0, .int .u32 0, .string (⟨#[]⟩ : ByteArray)]) (t := 100) ?_; intro gb171 hg w63 hbox hb; have BK171 := ak_ (hbox); have GW171 := ge_ hg; have GE171 := ge_ hg; have NB154_171 := nl_ BK154 hg; have NB171_154 := ng_ BK154 hg; have NB155_171 := nl_ BK155 hg; have NB171_155 := ng_ BK155 hg; replace BK154 := kb_ BK154 hb; replace BK155 := kb_ BK155 hb; replace HB := hb_ hb; clear hb hbox hg; have hnb64 := NB171_154.out; have hnc64 := NB154_171.out; have hnb65 := NB171_155.out; have hnc65 := NB155_171.out; obtain ⟨hcz66_0, hcz66_1, hcz66_2, hcz66_3, hcz66_4⟩ := cl5_ BK171; obtain ⟨hfz66_0, hfz66_1, hfz66_2, hfz66_3, hfz66_4⟩ := fz5_ BK171; have hnb67 := NB155_154.out; have hnc67 := NB154_155.out; obtain ⟨hcz68_0, hcz68_1⟩ := cl2_ BK155; obtain ⟨hfz68_0, hfz68_1⟩ := fz2_ BK155; obtain ⟨hcz69_0, hcz69_1, hcz69_2, hcz69_3, hcz69_4⟩ := cl5_ BK154; obtain ⟨hfz69_0, hfz69_1, hfz69_2, hfz69_3, hfz69_4⟩ := fz5_ BK154))
 refine bodyPost_ret (results_ct rfl _ _ gb154 100 #[.int .u8 0, .int .u16 0, .int .u32 0, .int .u32 0, .string (⟨#[]⟩ : ByteArray)] (0, 0) _ rfl (bs_) Tryz.underlying100 rfl (by kernel_rfl)) rfl ?_
 exact ⟨by first | rfl | (simp [errW_none, errW_some] <;> rfl) | (simp [*, errW_none, errW_some] <;> rfl), bel_⟩
def item_right.f (a0 : ByteArray) (a1 : ByteArray) : Option (Bool) := if a0.toList = ([] : List UInt8) then (some false) else (if (a0.size : Int) ≤ 48 then (some (decide ((a1.size : Int) ≤ 160))) else (some false))
set_option maxHeartbeats 8000000 in
set_option maxRecDepth 100000 in
theorem item_right.calls (a0 : ByteArray) (a1 : ByteArray) (r : Bool) (w : World) (h : item_right.f a0 a1 = some r) :
  Calls Tryz.prog 72 #[.string a0, .string a1] w fun e w' => e = .returned (.bool r) ∧ Drawn0 w w' := by
 have H : (if a0.toList = ([] : List UInt8) then (some false) else (if (a0.size : Int) ≤ 48 then (some (decide ((a1.size : Int) ≤ 160))) else (some false))) = some r := h
 clear h
 by_cases c3 : a0.toList = ([] : List UInt8)
 ·rw [if_pos c3] at H
  have c3b0 : (a0.toList == ([] : List UInt8)) = true := beq_iff_eq.mpr c3
  have c3b1 : (a0.toList != ([] : List UInt8)) = false := bne_eq_false_iff_eq.mpr c3
  clear c3
  obtain rfl := Option.some.inj H
  go_enter Tryz.func72, Tryz.ntmps72
  go_wp2
  go_ret
  exact ⟨by first | rfl | (simp; done) | (simp [*]; done), by repeat (first | exact Drawn0.refl _ | apply Drawn0.step)⟩
 rw [if_neg c3] at H
 have c3b0 : (a0.toList == ([] : List UInt8)) = false := beq_eq_false_iff_ne.mpr c3
 have c3b1 : (a0.toList != ([] : List UInt8)) = true := bne_iff_ne.mpr c3
 by_cases c4 : (a0.size : Int) ≤ 48
 ·rw [if_pos c4] at H
  have c4b0 : decide ((a0.size : Int) ≤ 48) = true := decide_eq_true c4
  have c4b1 : decide (a0.size ≤ 48) = true := decide_eq_true (by omega)
  clear c4
  obtain rfl := Option.some.inj H
  go_enter Tryz.func72, Tryz.ntmps72
  go_wp2
  go_ret
  exact ⟨by first | rfl | (simp; done) | (simp [*]; done), by repeat (first | exact Drawn0.refl _ | apply Drawn0.step)⟩
 rw [if_neg c4] at H
 have c4b0 : decide ((a0.size : Int) ≤ 48) = false := decide_eq_false c4
 have c4b1 : decide (a0.size ≤ 48) = false := decide_eq_false (by omega)
 clear c4
 obtain rfl := Option.some.inj H
 go_enter Tryz.func72, Tryz.ntmps72
 go_wp2
 go_ret
 exact ⟨by first | rfl | (simp; done) | (simp [*]; done), by repeat (first | exact Drawn0.refl _ | apply Drawn0.step)⟩
end Go.Proofs.YtfkofbabeghgkaaGreat.Z
end

section
namespace Go.Proofs.YtfkofbabeghgkaaGreat.Z
open Go
theorem bl_irrefl : ∀ x : List UInt8, Op.bytesLess x x = false
  | [] => rfl
  | a :: x => by simp [Op.bytesLess, bl_irrefl x]
theorem bl_trans : ∀ {x y z : List UInt8}, Op.bytesLess x y = true → Op.bytesLess y z = true → Op.bytesLess x z = true
  | _, [], _, h, _ => by simp [Op.bytesLess] at h
  | [], _ :: _, [], _, h => by simp [Op.bytesLess] at h
  | _ :: _, _ :: _, [], _, h => by simp [Op.bytesLess] at h
  | [], _ :: _, _ :: _, _, _ => rfl
  | a :: x, b :: y, c :: z, h, k => by
    simp only [Op.bytesLess, Bool.or_eq_true, decide_eq_true_eq, Bool.and_eq_true, beq_iff_eq] at h k ⊢
    rcases h with h | ⟨rfl, h⟩ <;> rcases k with k | ⟨rfl, k⟩
    · exact .inl (UInt8.lt_trans h k)
    · exact .inl h
    · exact .inl k
    · exact .inr ⟨rfl, bl_trans h k⟩
theorem bl_total : ∀ x y : List UInt8, x = y ∨ Op.bytesLess x y = true ∨ Op.bytesLess y x = true
  | [], [] => .inl rfl
  | [], _ :: _ => .inr (.inl rfl)
  | _ :: _, [] => .inr (.inr rfl)
  | a :: x, b :: y => by
    simp only [Op.bytesLess, Bool.or_eq_true, decide_eq_true_eq, Bool.and_eq_true, beq_iff_eq]
    rcases Nat.lt_trichotomy a.toNat b.toNat with h | h | h
    · exact .inr (.inl (.inl (UInt8.lt_iff_toNat_lt.2 h)))
    · obtain rfl := UInt8.toNat_inj.1 h
      rcases bl_total x y with rfl | k | k
      · exact .inl rfl
      · exact .inr (.inl (.inr ⟨rfl, k⟩))
      · exact .inr (.inr (.inr ⟨rfl, k⟩))
    · exact .inr (.inr (.inl (UInt8.lt_iff_toNat_lt.2 h)))
theorem bl_asymm {x y : List UInt8} (h : Op.bytesLess x y = true) : Op.bytesLess y x = false := by
  cases k : Op.bytesLess y x
  · rfl
  · have := bl_trans h k; rw [bl_irrefl] at this; cases this
theorem bl_ne {x y : List UInt8} (h : Op.bytesLess x y = true) : x ≠ y := by rintro rfl; rw [bl_irrefl] at h; cases h
theorem bl_leq (x y : List UInt8) : (Op.bytesLess x y || x == y) = !Op.bytesLess y x := by
  rcases bl_total x y with rfl | h | h
  · simp [bl_irrefl]
  · simp [h, bl_asymm h]
  · have : (x == y) = false := by simpa using (bl_ne h).symm
    simp [h, bl_asymm h, this]
theorem bl_gtr (x y : List UInt8) : (!(Op.bytesLess x y || x == y)) = Op.bytesLess y x := by rw [bl_leq]; simp
@[go_sem] theorem binOp_string_gtr_ (t : TypeId) (a b : ByteArray) : binOp .gtr t (.string a) (.string b) = pure (.bool (Op.bytesLess b.toList a.toList)) := by
  simp [binOp, Op.stringOp]
  rw [← Bool.not_or, bl_gtr]
@[go_sem] theorem binOp_string_leq_ (t : TypeId) (a b : ByteArray) : binOp .leq t (.string a) (.string b) = pure (.bool !(Op.bytesLess b.toList a.toList)) := by
  simp [binOp, Op.stringOp]
  rw [bl_leq]
@[go_sem] theorem binOp_string_geq_ (t : TypeId) (a b : ByteArray) : binOp .geq t (.string a) (.string b) = pure (.bool !(Op.bytesLess a.toList b.toList)) := by
  simp [binOp, Op.stringOp]
end Go.Proofs.YtfkofbabeghgkaaGreat.Z
end

section
namespace Go.Proofs.YtfkofbabeghgkaaGreat.Z
attribute [local go_sem] max2_int min2_int max_two min_two max_three min_three max_four min_four   -- for this text's walks alone
def item_Check.l0 : Nat → List (S77) → List (S77) → Int → Int → Option (Int)
 | 0, _, _, _, _ => none
 | k + 1, x0, x5, x6, x7 => if x7 < x6 then (if 0 ≤ x7 then (if x7 < (x5.length : Int) then ((item_right.f ((rd_T77 x5 x7).f0) ((rd_T77 x5 x7).f1)).bind fun t103 => (if t103 = true then (if x7 > 0 then (if 0 ≤ (wrap64 (x7 - 1)) then (if (wrap64 (x7 - 1)) < (x0.length : Int) then (if ((Op.bytesLess (((rd_T77 x0 (wrap64 (x7 - 1))).f0).toList) (((rd_T77 x5 x7).f0).toList)) = true) then (item_Check.l0 k x0 x5 x6 (wrap64 (x7 + 1))) else (some 4)) else (none)) else (none)) else (item_Check.l0 k x0 x5 x6 (wrap64 (x7 + 1)))) else (some 4))) else (none)) else (none)) else (some 0)
def item_Check.f (k : Nat) (l0 : List (S77)) : Option (Int) := item_Check.l0 k l0 l0 (l0.length : Int) 0
theorem item_Check.mono_l : ∀ k, (∀ y0 y1 y2 y3, LeO (item_Check.l0 k y0 y1 y2 y3) (item_Check.l0 (k + 1) y0 y1 y2 y3))
 | 0 => fun _ _ _ _ r h => by simp [item_Check.l0] at h
 | k + 1 => by
  have ih0 := item_Check.mono_l k
  ·intro y0 y1 y2 y3
   unfold item_Check.l0
   repeat' first
   | (with_reducible exact ih0 _ _ _ _)
   | (with_reducible exact LeO.refl _)
   | (with_reducible exact LeO.none _)
   | (with_reducible refine LeO.ite ?_ ?_)
   | (with_reducible refine LeO.bind ?_ (fun _ => ?_))
   | exact ih0 _ _ _ _
   | exact LeO.none _
   | refine LeO.ite ?_ ?_
   | refine LeO.bind ?_ (fun _ => ?_)
theorem item_Check.mono : ∀ a0 k, LeO (item_Check.f k a0) (item_Check.f (k + 1) a0) := by
 intro a0 k
 have ih0 := item_Check.mono_l k
 unfold item_Check.f
 repeat' first
   | (with_reducible exact ih0 _ _ _ _)
   | (with_reducible exact LeO.refl _)
   | (with_reducible exact LeO.none _)
   | (with_reducible refine LeO.ite ?_ ?_)
   | (with_reducible refine LeO.bind ?_ (fun _ => ?_))
   | exact ih0 _ _ _ _
   | exact LeO.none _
   | refine LeO.ite ?_ ?_
   | refine LeO.bind ?_ (fun _ => ?_)
set_option maxHeartbeats 8000000 in
set_option maxRecDepth 100000 in
theorem item_Check.calls (k : Nat) (A0 : Option Addr) (c0 : Nat) (l0 : List (S77)) (r : Int) (w : World) (hr0 : Kd.C k77 w A0 l0.length l0) (hc0 : l0.length ≤ c0) (h : item_Check.f k l0 = some r) :
  Calls Tryz.prog 40 #[.slice A0 l0.length c0] w fun e w' => e = .returned (.int .i64 r) ∧ Below w.heap.size w w' := by
 have hu77 := Tryz.underlying77
 have HR0 := ak_ hr0
 have HC0 := ak_ hc0
 clear hr0 hc0
 have HB := ak_ (Below.refl w.heap.size w)
 have H : (item_Check.l0 k l0 l0 (l0.length : Int) 0) = some r := h
 clear h
 have H' := ak_ H
 clear H
 go_enter Tryz.func40, Tryz.ntmps40
 go_wp2
 repeat (go_quiet (fail); try go_wp2)
 go_loopg [7] k (fun kq v7 w' => ∃ (x7_1 : Int), v7 = .int .i64 x7_1 ∧ Aside0 (item_Check.l0 kq l0 l0 (l0.length : Int) x7_1 = some r) ∧ Aside0 (kq ≤ k) ∧ Aside0 (Below w.heap.size w w'))
 case atStart => exact ⟨(0), (by first | rfl | (simp; done) | (simp [*]; done)), H', ⟨Nat.le_refl _⟩, ⟨bel_⟩⟩
 case round =>
  clear H'
  obtain ⟨x7_1, rfl, HA, HK1, HB⟩ := hrel
  cases gk with
  | zero => exact absurd HA.out (by simp [item_Check.l0])
  | succ k1 =>
   have H := HA.out
   clear HA
   simp only [item_Check.l0] at H
   by_cases c2 : x7_1 < (l0.length : Int)
   ·rw [if_pos c2] at H
    have c2b0 : decide (x7_1 < (l0.length : Int)) = true := decide_eq_true c2
    clear c2
    by_cases c3 : 0 ≤ x7_1
    ·rw [if_pos c3] at H
     have c3b0 : decide (0 ≤ x7_1) = true := decide_eq_true c3
     clear c3
     by_cases c4 : x7_1 < (l0.length : Int)
     ·rw [if_pos c4] at H
      have c4b0 : decide (x7_1 < (l0.length : Int)) = true := decide_eq_true c4
      clear c4
      replace H := Option.bind_eq_some_iff.mp H
      obtain ⟨t103, A50, H⟩ := H
      replace H : (if t103 = true then (if x7_1 > 0 then (if 0 ≤ (wrap64 (x7_1 - 1)) then (if (wrap64 (x7_1 - 1)) < (l0.length : Int) then (if ((Op.bytesLess (((rd_T77 l0 (wrap64 (x7_1 - 1))).f0).toList) (((rd_T77 l0 x7_1).f0).toList)) = true) then (item_Check.l0 k1 l0 l0 (l0.length : Int) (wrap64 (x7_1 + 1))) else (some 4)) else (none)) else (none)) else (item_Check.l0 k1 l0 l0 (l0.length : Int) (wrap64 (x7_1 + 1)))) else (some 4)) = some r := H
      have A5 := ak_ A50
      clear A50
      by_cases c6 : t103 = true
      ·subst c6
       have H1 : (if x7_1 > 0 then (if 0 ≤ (wrap64 (x7_1 - 1)) then (if (wrap64 (x7_1 - 1)) < (l0.length : Int) then (if ((Op.bytesLess (((rd_T77 l0 (wrap64 (x7_1 - 1))).f0).toList) (((rd_T77 l0 x7_1).f0).toList)) = true) then (item_Check.l0 k1 l0 l0 (l0.length : Int) (wrap64 (x7_1 + 1))) else (some 4)) else (none)) else (none)) else (item_Check.l0 k1 l0 l0 (l0.length : Int) (wrap64 (x7_1 + 1)))) = some r := by rw [if_pos rfl] at H; exact H
       clear H
       have H := H1
       clear H1
       by_cases c7 : x7_1 > 0
       ·rw [if_pos c7] at H
        have c7b0 : decide (0 < x7_1) = true := decide_eq_true c7
        clear c7
        obtain ⟨ji8, hji8⟩ : ∃ j_ : Int, (wrap64 (x7_1 - 1)) = j_ := ⟨_, rfl⟩
        replace H : (if 0 ≤ (ji8) then (if (ji8) < (l0.length : Int) then (if ((Op.bytesLess (((rd_T77 l0 (ji8)).f0).toList) (((rd_T77 l0 x7_1).f0).toList)) = true) then (item_Check.l0 k1 l0 l0 (l0.length : Int) (wrap64 (x7_1 + 1))) else (some 4)) else (none)) else (none)) = some r := by first | (rw [hji8] at H; exact H) | (simp only [hji8] at H ⊢; exact H)
        (try rw [hji8] at A5)
        have hji8w : (IntKind.i64.wrap (x7_1 - 1)) = ji8 := (i64_w _).trans hji8
        by_cases c9 : 0 ≤ (ji8)
        ·rw [if_pos c9] at H
         have c9b0 : decide (0 ≤ (ji8)) = true := decide_eq_true c9
         clear c9
         by_cases c10 : (ji8) < (l0.length : Int)
         ·rw [if_pos c10] at H
          have c10b0 : decide ((ji8) < (l0.length : Int)) = true := decide_eq_true c10
          clear c10
          by_cases c11 : ((Op.bytesLess (((rd_T77 l0 (ji8)).f0).toList) (((rd_T77 l0 x7_1).f0).toList)) = true)
          ·rw [if_pos c11] at H
           have c11b0 : (Op.bytesLess (((rd_T77 l0 (ji8)).f0).toList) (((rd_T77 l0 x7_1).f0).toList)) = true := c11
           clear c11
           have H' := ak_ H
           clear H
           have p101 : 0 ≤ (x7_1 : Int) := of_decide_eq_true (by first | (with_reducible assumption) | assumption)
           have q101 : x7_1 < (l0.length : Int) := of_decide_eq_true (by first | (with_reducible assumption) | assumption)
           obtain ⟨ad101, e101, hx101_0, hx101_1⟩ := at_T77 HR0.out x7_1 p101 q101
           cases e101
           replace hx101_0 := (HB.out.cell (World.block_lt_of_cell? w _ hx101_0)).trans hx101_0
           replace hx101_1 := (HB.out.cell (World.block_lt_of_cell? w _ hx101_1)).trans hx101_1
           replace p101 := eq_true p101
           replace q101 := eq_true q101
           go_wp2_with (first | ((with_reducible refine gate_dst (N := 4) rfl ?_); refine bx_ (N := 4) (cs := #[.string (⟨#[]⟩ : ByteArray), .string (⟨#[]⟩ : ByteArray)]) (t := 77) ?_; intro gb102 hg w12 hbox hb; have BK102 := ak_ (hbox); have GW102 := ge_ hg; have GE102 := ge_ hg; replace HB := hb_ hb; clear hb hbox hg; obtain ⟨hcz13_0, hcz13_1⟩ := cl2_ BK102; obtain ⟨hfz13_0, hfz13_1⟩ := fz2_ BK102) | (go_at_call 72; (with_reducible refine (item_right.calls ((rd_T77 l0 x7_1).f0) ((rd_T77 l0 x7_1).f1) true _ A5.out).mono ?_); rintro e w' ⟨rfl, ⟨nd, rfl⟩⟩; (try first | exact ⟨rfl, _, World.drewN_drewN _ _ _⟩ | exact ⟨rfl, _, Eq.trans (World.drewN_drewN _ _ _) (congrArg (World.drewN _) (Nat.add_assoc _ _ _))⟩); have p104 : 0 ≤ ((ji8) : Int) := of_decide_eq_true (by first | (with_reducible assumption) | assumption); have q104 : (ji8) < (l0.length : Int) := of_decide_eq_true (by first | (with_reducible assumption) | assumption); obtain ⟨ad104, e104, hx104_0, hx104_1⟩ := at_T77 HR0.out (ji8) p104 q104; obtain rfl : ad101 = ad104 := (by injection e104); have hn104_0 : ad101.block ≠ gb102 := Nat.ne_of_lt (Nat.lt_of_lt_of_le (by have := World.block_lt_of_cell? _ _ hx104_0; first | rwa [add_block] at this | exact this) GW102.out); have hn104_1 : ad101.block ≠ gb102 := Nat.ne_of_lt (Nat.lt_of_lt_of_le (by have := World.block_lt_of_cell? _ _ hx104_0; first | rwa [add_block] at this | exact this) GW102.out); replace hx104_0 := (HB.out.cell (World.block_lt_of_cell? w _ hx104_0)).trans hx104_0; replace hx104_1 := (HB.out.cell (World.block_lt_of_cell? w _ hx104_1)).trans hx104_1; replace hx104_0 := (cell_far (p := ⟨gb102, 0, none⟩) (by first | (rw [add_block]; exact hn104_0) | (show (Addr.add _ _).block ≠ _; rw [add_block]; exact hn104_0) | exact hn104_0) (.string ((rd_T77 l0 x7_1).f0))).trans hx104_0; replace hx104_1 := (cell_far (p := ⟨gb102, 0, none⟩) (by first | (rw [add_block]; exact hn104_0) | (show (Addr.add _ _).block ≠ _; rw [add_block]; exact hn104_0) | exact hn104_0) (.string ((rd_T77 l0 x7_1).f0))).trans hx104_1; replace hx104_0 := (cell_far (p := ⟨gb102, 1, none⟩) (by first | (rw [add_block]; exact hn104_1) | (show (Addr.add _ _).block ≠ _; rw [add_block]; exact hn104_1) | exact hn104_1) (.string ((rd_T77 l0 x7_1).f1))).trans hx104_0; replace hx104_1 := (cell_far (p := ⟨gb102, 1, none⟩) (by first | (rw [add_block]; exact hn104_1) | (show (Addr.add _ _).block ≠ _; rw [add_block]; exact hn104_1) | exact hn104_1) (.string ((rd_T77 l0 x7_1).f1))).trans hx104_1; (try have hy104_0 := fun (n_ : Nat) => (show ((((w12.drewN n_).setCell ⟨gb102, 0, none⟩ (.string ((rd_T77 l0 x7_1).f0))).setCell ⟨gb102, 1, none⟩ (.string ((rd_T77 l0 x7_1).f1)))).cell? _ = some _ from hx104_0)); (try have hy104_1 := fun (n_ : Nat) => (show ((((w12.drewN n_).setCell ⟨gb102, 0, none⟩ (.string ((rd_T77 l0 x7_1).f0))).setCell ⟨gb102, 1, none⟩ (.string ((rd_T77 l0 x7_1).f1)))).cell? _ = some _ from hx104_1)); clear hn104_0; clear hn104_1; replace p104 := eq_true p104; replace q104 := eq_true q104))
           repeat (go_quiet (first | ((with_reducible refine gate_dst (N := 4) rfl ?_); refine bx_ (N := 4) (cs := #[.string (⟨#[]⟩ : ByteArray), .string (⟨#[]⟩ : ByteArray)]) (t := 77) ?_; intro gb102 hg w12 hbox hb; have n0_ := ak_ (below_step bel_ hb); have n1_ := ak_ (hbox); have n2_ := ak_ ((by rw [hg]; exact (below_size bel_) : w.heap.size ≤ gb102)); have n3_ := ak_ ((by rw [hg]; exact (below_size bel_) : w.heap.size ≤ gb102)); clear HB; have HB := n0_; have BK102 := n1_; have GW102 := n2_; have GE102 := n3_; clear n0_ n1_ n2_ n3_; clear hb hbox hg; have hcz13_0 : w12.cell? ⟨gb102, 0, none⟩ = some (.string (⟨#[]⟩ : ByteArray)) := (blk_cell BK102.out 0).trans rfl; have hcz13_1 : w12.cell? ⟨gb102, 1, none⟩ = some (.string (⟨#[]⟩ : ByteArray)) := (blk_cell BK102.out 1).trans rfl; have hfz13_0 := blk_frozen BK102.out 0; have hfz13_1 := blk_frozen BK102.out 1) | (go_at_call 72; (with_reducible refine (item_right.calls ((rd_T77 l0 x7_1).f0) ((rd_T77 l0 x7_1).f1) true _ A5.out).mono ?_); rintro e w' ⟨rfl, ⟨nd, rfl⟩⟩; (try first | exact ⟨rfl, _, World.drewN_drewN _ _ _⟩ | exact ⟨rfl, _, Eq.trans (World.drewN_drewN _ _ _) (congrArg (World.drewN _) (Nat.add_assoc _ _ _))⟩); have p104 : 0 ≤ ((ji8) : Int) := of_decide_eq_true (by first | (with_reducible assumption) | assumption); have q104 : (ji8) < (l0.length : Int) := of_decide_eq_true (by first | (with_reducible assumption) | assumption); obtain ⟨ad104, e104, hx104_0, hx104_1⟩ := at_T77 HR0.out (ji8) p104 q104; obtain rfl : ad101 = ad104 := (by injection e104); have hn104_0 : ad101.block ≠ gb102 := Nat.ne_of_lt (Nat.lt_of_lt_of_le (by have := World.block_lt_of_cell? _ _ hx104_0; first | rwa [add_block] at this | exact this) GW102.out); have hn104_1 : ad101.block ≠ gb102 := Nat.ne_of_lt (Nat.lt_of_lt_of_le (by have := World.block_lt_of_cell? _ _ hx104_0; first | rwa [add_block] at this | exact this) GW102.out); replace hx104_0 := (HB.out.cell (World.block_lt_of_cell? w _ hx104_0)).trans hx104_0; replace hx104_1 := (HB.out.cell (World.block_lt_of_cell? w _ hx104_1)).trans hx104_1; replace hx104_0 := (cell_far (p := ⟨gb102, 0, none⟩) (by first | (rw [add_block]; exact hn104_0) | (show (Addr.add _ _).block ≠ _; rw [add_block]; exact hn104_0) | exact hn104_0) (.string ((rd_T77 l0 x7_1).f0))).trans hx104_0; replace hx104_1 := (cell_far (p := ⟨gb102, 0, none⟩) (by first | (rw [add_block]; exact hn104_0) | (show (Addr.add _ _).block ≠ _; rw [add_block]; exact hn104_0) | exact hn104_0) (.string ((rd_T77 l0 x7_1).f0))).trans hx104_1; replace hx104_0 := (cell_far (p := ⟨gb102, 1, none⟩) (by first | (rw [add_block]; exact hn104_1) | (show (Addr.add _ _).block ≠ _; rw [add_block]; exact hn104_1) | exact hn104_1) (.string ((rd_T77 l0 x7_1).f1))).trans hx104_0; replace hx104_1 := (cell_far (p := ⟨gb102, 1, none⟩) (by first | (rw [add_block]; exact hn104_1) | (show (Addr.add _ _).block ≠ _; rw [add_block]; exact hn104_1) | exact hn104_1) (.string ((rd_T77 l0 x7_1).f1))).trans hx104_1; (try have hy104_0 := fun (n_ : Nat) => (show ((((w12.drewN n_).setCell ⟨gb102, 0, none⟩ (.string ((rd_T77 l0 x7_1).f0))).setCell ⟨gb102, 1, none⟩ (.string ((rd_T77 l0 x7_1).f1)))).cell? _ = some _ from hx104_0)); (try have hy104_1 := fun (n_ : Nat) => (show ((((w12.drewN n_).setCell ⟨gb102, 0, none⟩ (.string ((rd_T77 l0 x7_1).f0))).setCell ⟨gb102, 1, none⟩ (.string ((rd_T77 l0 x7_1).f1)))).cell? _ = some _ from hx104_1)); clear hn104_0; clear hn104_1; replace p104 := eq_true p104; replace q104 := eq_true q104)); try go_wp2_with (first | ((with_reducible refine gate_dst (N := 4) rfl ?_); refine bx_ (N := 4) (cs := #[.string (⟨#[]⟩ : ByteArray), .string (⟨#[]⟩ : ByteArray)]) (t := 77) ?_; intro gb102 hg w12 hbox hb; have BK102 := ak_ (hbox); have GW102 := ge_ hg; have GE102 := ge_ hg; replace HB := hb_ hb; clear hb hbox hg; obtain ⟨hcz13_0, hcz13_1⟩ := cl2_ BK102; obtain ⟨hfz13_0, hfz13_1⟩ := fz2_ BK102) | (go_at_call 72; (with_reducible refine (item_right.calls ((rd_T77 l0 x7_1).f0) ((rd_T77 l0 x7_1).f1) true _ A5.out).mono ?_); rintro e w' ⟨rfl, ⟨nd, rfl⟩⟩; (try first | exact ⟨rfl, _, World.drewN_drewN _ _ _⟩ | exact ⟨rfl, _, Eq.trans (World.drewN_drewN _ _ _) (congrArg (World.drewN _) (Nat.add_assoc _ _ _))⟩); have p104 : 0 ≤ ((ji8) : Int) := of_decide_eq_true (by first | (with_reducible assumption) | assumption); have q104 : (ji8) < (l0.length : Int) := of_decide_eq_true (by first | (with_reducible assumption) | assumption); obtain ⟨ad104, e104, hx104_0, hx104_1⟩ := at_T77 HR0.out (ji8) p104 q104; obtain rfl : ad101 = ad104 := (by injection e104); have hn104_0 : ad101.block ≠ gb102 := Nat.ne_of_lt (Nat.lt_of_lt_of_le (by have := World.block_lt_of_cell? _ _ hx104_0; first | rwa [add_block] at this | exact this) GW102.out); have hn104_1 : ad101.block ≠ gb102 := Nat.ne_of_lt (Nat.lt_of_lt_of_le (by have := World.block_lt_of_cell? _ _ hx104_0; first | rwa [add_block] at this | exact this) GW102.out); replace hx104_0 := (HB.out.cell (World.block_lt_of_cell? w _ hx104_0)).trans hx104_0; replace hx104_1 := (HB.out.cell (World.block_lt_of_cell? w _ hx104_1)).trans hx104_1; replace hx104_0 := (cell_far (p := ⟨gb102, 0, none⟩) (by first | (rw [add_block]; exact hn104_0) | (show (Addr.add _ _).block ≠ _; rw [add_block]; exact hn104_0) | exact hn104_0) (.string ((rd_T77 l0 x7_1).f0))).trans hx104_0; replace hx104_1 := (cell_far (p := ⟨gb102, 0, none⟩) (by first | (rw [add_block]; exact hn104_0) | (show (Addr.add _ _).block ≠ _; rw [add_block]; exact hn104_0) | exact hn104_0) (.string ((rd_T77 l0 x7_1).f0))).trans hx104_1; replace hx104_0 := (cell_far (p := ⟨gb102, 1, none⟩) (by first | (rw [add_block]; exact hn104_1) | (show (Addr.add _ _).block ≠ _; rw [add_block]; exact hn104_1) | exact hn104_1) (.string ((rd_T77 l0 x7_1).f1))).trans hx104_0; replace hx104_1 := (cell_far (p := ⟨gb102, 1, none⟩) (by first | (rw [add_block]; exact hn104_1) | (show (Addr.add _ _).block ≠ _; rw [add_block]; exact hn104_1) | exact hn104_1) (.string ((rd_T77 l0 x7_1).f1))).trans hx104_1; (try have hy104_0 := fun (n_ : Nat) => (show ((((w12.drewN n_).setCell ⟨gb102, 0, none⟩ (.string ((rd_T77 l0 x7_1).f0))).setCell ⟨gb102, 1, none⟩ (.string ((rd_T77 l0 x7_1).f1)))).cell? _ = some _ from hx104_0)); (try have hy104_1 := fun (n_ : Nat) => (show ((((w12.drewN n_).setCell ⟨gb102, 0, none⟩ (.string ((rd_T77 l0 x7_1).f0))).setCell ⟨gb102, 1, none⟩ (.string ((rd_T77 l0 x7_1).f1)))).cell? _ = some _ from hx104_1)); clear hn104_0; clear hn104_1; replace p104 := eq_true p104; replace q104 := eq_true q104)))
           go_roundg k1
           case measure => have := HK1.out; omega
           case rel => exact ⟨(wrap64 (x7_1 + 1)), (by first | rfl | (simp; done) | (simp [*]; done)), H', ⟨by have := HK1.out; omega⟩, ⟨bel_⟩⟩
          rw [if_neg c11] at H
          have c11b0 : (Op.bytesLess (((rd_T77 l0 (ji8)).f0).toList) (((rd_T77 l0 x7_1).f0).toList)) = false := by simpa using c11
          clear c11
          obtain rfl := Option.some.inj H
          have p101 : 0 ≤ (x7_1 : Int) := of_decide_eq_true (by first | (with_reducible assumption) | assumption)
          have q101 : x7_1 < (l0.length : Int) := of_decide_eq_true (by first | (with_reducible assumption) | assumption)
          obtain ⟨ad101, e101, hx101_0, hx101_1⟩ := at_T77 HR0.out x7_1 p101 q101
          cases e101
          replace hx101_0 := (HB.out.cell (World.block_lt_of_cell? w _ hx101_0)).trans hx101_0
          replace hx101_1 := (HB.out.cell (World.block_lt_of_cell? w _ hx101_1)).trans hx101_1
          replace p101 := eq_true p101
          replace q101 := eq_true q101
          go_wp2_with (first | ((with_reducible refine gate_dst (N := 4) rfl ?_); refine bx_ (N := 4) (cs := #[.string (⟨#[]⟩ : ByteArray), .string (⟨#[]⟩ : ByteArray)]) (t := 77) ?_; intro gb102 hg w14 hbox hb; have BK102 := ak_ (hbox); have GW102 := ge_ hg; have GE102 := ge_ hg; replace HB := hb_ hb; clear hb hbox hg; obtain ⟨hcz15_0, hcz15_1⟩ := cl2_ BK102; obtain ⟨hfz15_0, hfz15_1⟩ := fz2_ BK102) | (go_at_call 72; (with_reducible refine (item_right.calls ((rd_T77 l0 x7_1).f0) ((rd_T77 l0 x7_1).f1) true _ A5.out).mono ?_); rintro e w' ⟨rfl, ⟨nd, rfl⟩⟩; (try first | exact ⟨rfl, _, World.drewN_drewN _ _ _⟩ | exact ⟨rfl, _, Eq.trans (World.drewN_drewN _ _ _) (congrArg (World.drewN _) (Nat.add_assoc _ _ _))⟩); have p104 : 0 ≤ ((ji8) : Int) := of_decide_eq_true (by first | (with_reducible assumption) | assumption); have q104 : (ji8) < (l0.length : Int) := of_decide_eq_true (by first | (with_reducible assumption) | assumption); obtain ⟨ad104, e104, hx104_0, hx104_1⟩ := at_T77 HR0.out (ji8) p104 q104; obtain rfl : ad101 = ad104 := (by injection e104); have hn104_0 : ad101.block ≠ gb102 := Nat.ne_of_lt (Nat.lt_of_lt_of_le (by have := World.block_lt_of_cell? _ _ hx104_0; first | rwa [add_block] at this | exact this) GW102.out); have hn104_1 : ad101.block ≠ gb102 := Nat.ne_of_lt (Nat.lt_of_lt_of_le (by have := World.block_lt_of_cell? _ _ hx104_0; first | rwa [add_block] at this | exact this) GW102.out); replace hx104_0 := (HB.out.cell (World.block_lt_of_cell? w _ hx104_0)).trans hx104_0; replace hx104_1 := (HB.out.cell (World.block_lt_of_cell? w _ hx104_1)).trans hx104_1; replace hx104_0 := (cell_far (p := ⟨gb102, 0, none⟩) (by first | (rw [add_block]; exact hn104_0) | (show (Addr.add _ _).block ≠ _; rw [add_block]; exact hn104_0) | exact hn104_0) (.string ((rd_T77 l0 x7_1).f0))).trans hx104_0; replace hx104_1 := (cell_far (p := ⟨gb102, 0, none⟩) (by first | (rw [add_block]; exact hn104_0) | (show (Addr.add _ _).block ≠ _; rw [add_block]; exact hn104_0) | exact hn104_0) (.string ((rd_T77 l0 x7_1).f0))).trans hx104_1; replace hx104_0 := (cell_far (p := ⟨gb102, 1, none⟩) (by first | (rw [add_block]; exact hn104_1) | (show (Addr.add _ _).block ≠ _; rw [add_block]; exact hn104_1) | exact hn104_1) (.string ((rd_T77 l0 x7_1).f1))).trans hx104_0; replace hx104_1 := (cell_far (p := ⟨gb102, 1, none⟩) (by first | (rw [add_block]; exact hn104_1) | (show (Addr.add _ _).block ≠ _; rw [add_block]; exact hn104_1) | exact hn104_1) (.string ((rd_T77 l0 x7_1).f1))).trans hx104_1; (try have hy104_0 := fun (n_ : Nat) => (show ((((w14.drewN n_).setCell ⟨gb102, 0, none⟩ (.string ((rd_T77 l0 x7_1).f0))).setCell ⟨gb102, 1, none⟩ (.string ((rd_T77 l0 x7_1).f1)))).cell? _ = some _ from hx104_0)); (try have hy104_1 := fun (n_ : Nat) => (show ((((w14.drewN n_).setCell ⟨gb102, 0, none⟩ (.string ((rd_T77 l0 x7_1).f0))).setCell ⟨gb102, 1, none⟩ (.string ((rd_T77 l0 x7_1).f1)))).cell? _ = some _ from hx104_1)); clear hn104_0; clear hn104_1; replace p104 := eq_true p104; replace q104 := eq_true q104))
          repeat (go_quiet (first | ((with_reducible refine gate_dst (N := 4) rfl ?_); refine bx_ (N := 4) (cs := #[.string (⟨#[]⟩ : ByteArray), .string (⟨#[]⟩ : ByteArray)]) (t := 77) ?_; intro gb102 hg w14 hbox hb; have n0_ := ak_ (below_step bel_ hb); have n1_ := ak_ (hbox); have n2_ := ak_ ((by rw [hg]; exact (below_size bel_) : w.heap.size ≤ gb102)); have n3_ := ak_ ((by rw [hg]; exact (below_size bel_) : w.heap.size ≤ gb102)); clear HB; have HB := n0_; have BK102 := n1_; have GW102 := n2_; have GE102 := n3_; clear n0_ n1_ n2_ n3_; clear hb hbox hg; have hcz15_0 : w14.cell? ⟨gb102, 0, none⟩ = some (.string (⟨#[]⟩ : ByteArray)) := (blk_cell BK102.out 0).trans rfl; have hcz15_1 : w14.cell? ⟨gb102, 1, none⟩ = some (.string (⟨#[]⟩ : ByteArray)) := (blk_cell BK102.out 1).trans rfl; have hfz15_0 := blk_frozen BK102.out 0; have hfz15_1 := blk_frozen BK102.out 1) | (go_at_call 72; (with_reducible refine (item_right.calls ((rd_T77 l0 x7_1).f0) ((rd_T77 l0 x7_1).f1) true _ A5.out).mono ?_); rintro e w' ⟨rfl, ⟨nd, rfl⟩⟩; (try first | exact ⟨rfl, _, World.drewN_drewN _ _ _⟩ | exact ⟨rfl, _, Eq.trans (World.drewN_drewN _ _ _) (congrArg (World.drewN _) (Nat.add_assoc _ _ _))⟩); have p104 : 0 ≤ ((ji8) : Int) := of_decide_eq_true (by first | (with_reducible assumption) | assumption); have q104 : (ji8) < (l0.length : Int) := of_decide_eq_true (by first | (with_reducible assumption) | assumption); obtain ⟨ad104, e104, hx104_0, hx104_1⟩ := at_T77 HR0.out (ji8) p104 q104; obtain rfl : ad101 = ad104 := (by injection e104); have hn104_0 : ad101.block ≠ gb102 := Nat.ne_of_lt (Nat.lt_of_lt_of_le (by have := World.block_lt_of_cell? _ _ hx104_0; first | rwa [add_block] at this | exact this) GW102.out); have hn104_1 : ad101.block ≠ gb102 := Nat.ne_of_lt (Nat.lt_of_lt_of_le (by have := World.block_lt_of_cell? _ _ hx104_0; first | rwa [add_block] at this | exact this) GW102.out); replace hx104_0 := (HB.out.cell (World.block_lt_of_cell? w _ hx104_0)).trans hx104_0; replace hx104_1 := (HB.out.cell (World.block_lt_of_cell? w _ hx104_1)).trans hx104_1; replace hx104_0 := (cell_far (p := ⟨gb102, 0, none⟩) (by first | (rw [add_block]; exact hn104_0) | (show (Addr.add _ _).block ≠ _; rw [add_block]; exact hn104_0) | exact hn104_0) (.string ((rd_T77 l0 x7_1).f0))).trans hx104_0; replace hx104_1 := (cell_far (p := ⟨gb102, 0, none⟩) (by first | (rw [add_block]; exact hn104_0) | (show (Addr.add _ _).block ≠ _; rw [add_block]; exact hn104_0) | exact hn104_0) (.string ((rd_T77 l0 x7_1).f0))).trans hx104_1; replace hx104_0 := (cell_far (p := ⟨gb102, 1, none⟩) (by first | (rw [add_block]; exact hn104_1) | (show (Addr.add _ _).block ≠ _; rw [add_block]; exact hn104_1) | exact hn104_1) (.string ((rd_T77 l0 x7_1).f1))).trans hx104_0; replace hx104_1 := (cell_far (p := ⟨gb102, 1, none⟩) (by first | (rw [add_block]; exact hn104_1) | (show (Addr.add _ _).block ≠ _; rw [add_block]; exact hn104_1) | exact hn104_1) (.string ((rd_T77 l0 x7_1).f1))).trans hx104_1; (try have hy104_0 := fun (n_ : Nat) => (show ((((w14.drewN n_).setCell ⟨gb102, 0, none⟩ (.string ((rd_T77 l0 x7_1).f0))).setCell ⟨gb102, 1, none⟩ (.string ((rd_T77 l0 x7_1).f1)))).cell? _ = some _ from hx104_0)); (try have hy104_1 := fun (n_ : Nat) => (show ((((w14.drewN n_).setCell ⟨gb102, 0, none⟩ (.string ((rd_T77 l0 x7_1).f0))).setCell ⟨gb102, 1, none⟩ (.string ((rd_T77 l0 x7_1).f1)))).cell? _ = some _ from hx104_1)); clear hn104_0; clear hn104_1; replace p104 := eq_true p104; replace q104 := eq_true q104)); try go_wp2_with (first | ((with_reducible refine gate_dst (N := 4) rfl ?_); refine bx_ (N := 4) (cs := #[.string (⟨#[]⟩ : ByteArray), .string (⟨#[]⟩ : ByteArray)]) (t := 77) ?_; intro gb102 hg w14 hbox hb; have BK102 := ak_ (hbox); have GW102 := ge_ hg; have GE102 := ge_ hg; replace HB := hb_ hb; clear hb hbox hg; obtain ⟨hcz15_0, hcz15_1⟩ := cl2_ BK102; obtain ⟨hfz15_0, hfz15_1⟩ := fz2_ BK102) | (go_at_call 72; (with_reducible refine (item_right.calls ((rd_T77 l0 x7_1).f0) ((rd_T77 l0 x7_1).f1) true _ A5.out).mono ?_); rintro e w' ⟨rfl, ⟨nd, rfl⟩⟩; (try first | exact ⟨rfl, _, World.drewN_drewN _ _ _⟩ | exact ⟨rfl, _, Eq.trans (World.drewN_drewN _ _ _) (congrArg (World.drewN _) (Nat.add_assoc _ _ _))⟩); have p104 : 0 ≤ ((ji8) : Int) := of_decide_eq_true (by first | (with_reducible assumption) | assumption); have q104 : (ji8) < (l0.length : Int) := of_decide_eq_true (by first | (with_reducible assumption) | assumption); obtain ⟨ad104, e104, hx104_0, hx104_1⟩ := at_T77 HR0.out (ji8) p104 q104; obtain rfl : ad101 = ad104 := (by injection e104); have hn104_0 : ad101.block ≠ gb102 := Nat.ne_of_lt (Nat.lt_of_lt_of_le (by have := World.block_lt_of_cell? _ _ hx104_0; first | rwa [add_block] at this | exact this) GW102.out); have hn104_1 : ad101.block ≠ gb102 := Nat.ne_of_lt (Nat.lt_of_lt_of_le (by have := World.block_lt_of_cell? _ _ hx104_0; first | rwa [add_block] at this | exact this) GW102.out); replace hx104_0 := (HB.out.cell (World.block_lt_of_cell? w _ hx104_0)).trans hx104_0; replace hx104_1 := (HB.out.cell (World.block_lt_of_cell? w _ hx104_1)).trans hx104_1; replace hx104_0 := (cell_far (p := ⟨gb102, 0, none⟩) (by first | (rw [add_block]; exact hn104_0) | (show (Addr.add _ _).block ≠ _; rw [add_block]; exact hn104_0) | exact hn104_0) (.string ((rd_T77 l0 x7_1).f0))).trans hx104_0; replace hx104_1 := (cell_far (p := ⟨gb102, 0, none⟩) (by first | (rw [add_block]; exact hn104_0) | (show (Addr.add _ _).block ≠ _; rw [add_block]; exact hn104_0) | exact hn104_0) (.string ((rd_T77 l0 x7_1).f0))).trans hx104_1; replace hx104_0 := (cell_far (p := ⟨gb102, 1, none⟩) (by first | (rw [add_block]; exact hn104_1) | (show (Addr.add _ _).block ≠ _; rw [add_block]; exact hn104_1) | exact hn104_1) (.string ((rd_T77 l0 x7_1).f1))).trans hx104_0; replace hx104_1 := (cell_far (p := ⟨gb102, 1, none⟩) (by first | (rw [add_block]; exact hn104_1) | (show (Addr.add _ _).block ≠ _; rw [add_block]; exact hn104_1) | exact hn104_1) (.string ((rd_T77 l0 x7_1).f1))).trans hx104_1; (try have hy104_0 := fun (n_ : Nat) => (show ((((w14.drewN n_).setCell ⟨gb102, 0, none⟩ (.string ((rd_T77 l0 x7_1).f0))).setCell ⟨gb102, 1, none⟩ (.string ((rd_T77 l0 x7_1).f1)))).cell? _ = some _ from hx104_0)); (try have hy104_1 := fun (n_ : Nat) => (show ((((w14.drewN n_).setCell ⟨gb102, 0, none⟩ (.string ((rd_T77 l0 x7_1).f0))).setCell ⟨gb102, 1, none⟩ (.string ((rd_T77 l0 x7_1).f1)))).cell? _ = some _ from hx104_1)); clear hn104_0; clear hn104_1; replace p104 := eq_true p104; replace q104 := eq_true q104)))
          go_ret
          exact ⟨by first | rfl | (simp [errW_none, errW_some] <;> rfl) | (simp only [← hji8]; first | rfl | (simp [errW_none, errW_some] <;> rfl)) | (simp [*, errW_none, errW_some] <;> rfl), bel_⟩
         rw [if_neg c10] at H
         exact absurd H (by simp)
        rw [if_neg c9] at H
        exact absurd H (by simp)
       rw [if_neg c7] at H
       have c7b0 : decide (0 < x7_1) = false := decide_eq_false c7
       clear c7
       have H' := ak_ H
       clear H
       have p101 : 0 ≤ (x7_1 : Int) := of_decide_eq_true (by first | (with_reducible assumption) | assumption)
       have q101 : x7_1 < (l0.length : Int) := of_decide_eq_true (by first | (with_reducible assumption) | assumption)
       obtain ⟨ad101, e101, hx101_0, hx101_1⟩ := at_T77 HR0.out x7_1 p101 q101
       cases e101
       replace hx101_0 := (HB.out.cell (World.block_lt_of_cell? w _ hx101_0)).trans hx101_0
       replace hx101_1 := (HB.out.cell (World.block_lt_of_cell? w _ hx101_1)).trans hx101_1
       replace p101 := eq_true p101
       replace q101 := eq_true q101
       go_wp2_with (first | ((with_reducible refine gate_dst (N := 4) rfl ?_); refine bx_ (N := 4) (cs := #[.string (⟨#[]⟩ : ByteArray), .string (⟨#[]⟩ : ByteArray)]) (t := 77) ?_; intro gb102 hg w16 hbox hb; have BK102 := ak_ (hbox); have GW102 := ge_ hg; have GE102 := ge_ hg; replace HB := hb_ hb; clear hb hbox hg; obtain ⟨hcz17_0, hcz17_1⟩ := cl2_ BK102; obtain ⟨hfz17_0, hfz17_1⟩ := fz2_ BK102) | (go_at_call 72; (with_reducible refine (item_right.calls ((rd_T77 l0 x7_1).f0) ((rd_T77 l0 x7_1).f1) true _ A5.out).mono ?_); rintro e w' ⟨rfl, ⟨nd, rfl⟩⟩; (try first | exact ⟨rfl, _, World.drewN_drewN _ _ _⟩ | exact ⟨rfl, _, Eq.trans (World.drewN_drewN _ _ _) (congrArg (World.drewN _) (Nat.add_assoc _ _ _))⟩)))
       repeat (go_quiet (first | ((with_reducible refine gate_dst (N := 4) rfl ?_); refine bx_ (N := 4) (cs := #[.string (⟨#[]⟩ : ByteArray), .string (⟨#[]⟩ : ByteArray)]) (t := 77) ?_; intro gb102 hg w16 hbox hb; have n0_ := ak_ (below_step bel_ hb); have n1_ := ak_ (hbox); have n2_ := ak_ ((by rw [hg]; exact (below_size bel_) : w.heap.size ≤ gb102)); have n3_ := ak_ ((by rw [hg]; exact (below_size bel_) : w.heap.size ≤ gb102)); clear HB; have HB := n0_; have BK102 := n1_; have GW102 := n2_; have GE102 := n3_; clear n0_ n1_ n2_ n3_; clear hb hbox hg; have hcz17_0 : w16.cell? ⟨gb102, 0, none⟩ = some (.string (⟨#[]⟩ : ByteArray)) := (blk_cell BK102.out 0).trans rfl; have hcz17_1 : w16.cell? ⟨gb102, 1, none⟩ = some (.string (⟨#[]⟩ : ByteArray)) := (blk_cell BK102.out 1).trans rfl; have hfz17_0 := blk_frozen BK102.out 0; have hfz17_1 := blk_frozen BK102.out 1) | (go_at_call 72; (with_reducible refine (item_right.calls ((rd_T77 l0 x7_1).f0) ((rd_T77 l0 x7_1).f1) true _ A5.out).mono ?_); rintro e w' ⟨rfl, ⟨nd, rfl⟩⟩; (try first | exact ⟨rfl, _, World.drewN_drewN _ _ _⟩ | exact ⟨rfl, _, Eq.trans (World.drewN_drewN _ _ _) (congrArg (World.drewN _) (Nat.add_assoc _ _ _))⟩))); try go_wp2_with (first | ((with_reducible refine gate_dst (N := 4) rfl ?_); refine bx_ (N := 4) (cs := #[.string (⟨#[]⟩ : ByteArray), .string (⟨#[]⟩ : ByteArray)]) (t := 77) ?_; intro gb102 hg w16 hbox hb; have BK102 := ak_ (hbox); have GW102 := ge_ hg; have GE102 := ge_ hg; replace HB := hb_ hb; clear hb hbox hg; obtain ⟨hcz17_0, hcz17_1⟩ := cl2_ BK102; obtain ⟨hfz17_0, hfz17_1⟩ := fz2_ BK102) | (go_at_call 72; (with_reducible refine (item_right.calls ((rd_T77 l0 x7_1).f0) ((rd_T77 l0 x7_1).f1) true _ A5.out).mono ?_); rintro e w' ⟨rfl, ⟨nd, rfl⟩⟩; (try first | exact ⟨rfl, _, World.drewN_drewN _ _ _⟩ | exact ⟨rfl, _, Eq.trans (World.drewN_drewN _ _ _) (congrArg (World.drewN _) (Nat.add_assoc _ _ _))⟩))))
       go_roundg k1
       case measure => have := HK1.out; omega
       case rel => exact ⟨(wrap64 (x7_1 + 1)), (by first | rfl | (simp; done) | (simp [*]; done)), H', ⟨by have := HK1.out; omega⟩, ⟨bel_⟩⟩
      replace c6 := Bool.eq_false_iff.mpr c6
      subst c6
      have H1 : (some 4) = some r := by rw [if_neg (show ¬ (false = true) by decide)] at H; exact H
      clear H
      have H := H1
      clear H1
      obtain rfl := Option.some.inj H
      have p101 : 0 ≤ (x7_1 : Int) := of_decide_eq_true (by first | (with_reducible assumption) | assumption)
      have q101 : x7_1 < (l0.length : Int) := of_decide_eq_true (by first | (with_reducible assumption) | assumption)
      obtain ⟨ad101, e101, hx101_0, hx101_1⟩ := at_T77 HR0.out x7_1 p101 q101
      cases e101
      replace hx101_0 := (HB.out.cell (World.block_lt_of_cell? w _ hx101_0)).trans hx101_0
      replace hx101_1 := (HB.out.cell (World.block_lt_of_cell? w _ hx101_1)).trans hx101_1
      replace p101 := eq_true p101
      replace q101 := eq_true q101
      go_wp2_with (first | ((with_reducible refine gate_dst (N := 4) rfl ?_); refine bx_ (N := 4) (cs := #[.string (⟨#[]⟩ : ByteArray), .string (⟨#[]⟩ : ByteArray)]) (t := 77) ?_; intro gb102 hg w18 hbox hb; have BK102 := ak_ (hbox); have GW102 := ge_ hg; have GE102 := ge_ hg; replace HB := hb_ hb; clear hb hbox hg; obtain ⟨hcz19_0, hcz19_1⟩ := cl2_ BK102; obtain ⟨hfz19_0, hfz19_1⟩ := fz2_ BK102) | (go_at_call 72; (with_reducible refine (item_right.calls ((rd_T77 l0 x7_1).f0) ((rd_T77 l0 x7_1).f1) false _ A5.out).mono ?_); rintro e w' ⟨rfl, ⟨nd, rfl⟩⟩; (try first | exact ⟨rfl, _, World.drewN_drewN _ _ _⟩ | exact ⟨rfl, _, Eq.trans (World.drewN_drewN _ _ _) (congrArg (World.drewN _) (Nat.add_assoc _ _ _))⟩)))
      repeat (go_quiet (first | ((with_reducible refine gate_dst (N := 4) rfl ?_); refine bx_ (N := 4) (cs := #[.string (⟨#[]⟩ : ByteArray), .string (⟨#[]⟩ : ByteArray)]) (t := 77) ?_; intro gb102 hg w18 hbox hb; have n0_ := ak_ (below_step bel_ hb); have n1_ := ak_ (hbox); have n2_ := ak_ ((by rw [hg]; exact (below_size bel_) : w.heap.size ≤ gb102)); have n3_ := ak_ ((by rw [hg]; exact (below_size bel_) : w.heap.size ≤ gb102)); clear HB; have HB := n0_; have BK102 := n1_; have GW102 := n2_; have GE102 := n3_; clear n0_ n1_ n2_ n3_; clear hb hbox hg; have hcz19_0 : w18.cell? ⟨gb102, 0, none⟩ = some (.string (⟨#[]⟩ : ByteArray)) := (blk_cell BK102.out 0).trans rfl; have hcz19_1 : w18.cell? ⟨gb102, 1, none⟩ = some (.string (⟨#[]⟩ : ByteArray)) := (blk_cell BK102.out 1).trans rfl; have hfz19_0 := blk_frozen BK102.out 0; have hfz19_1 := blk_frozen BK102.out 1) | (go_at_call 72; (with_reducible refine (item_right.calls ((rd_T77 l0 x7_1).f0) ((rd_T77 l0 x7_1).f1) false _ A5.out).mono ?_); rintro e w' ⟨rfl, ⟨nd, rfl⟩⟩; (try first | exact ⟨rfl, _, World.drewN_drewN _ _ _⟩ | exact ⟨rfl, _, Eq.trans (World.drewN_drewN _ _ _) (congrArg (World.drewN _) (Nat.add_assoc _ _ _))⟩))); try go_wp2_with (first | ((with_reducible refine gate_dst (N := 4) rfl ?_); refine bx_ (N := 4) (cs := #[.string (⟨#[]⟩ : ByteArray), .string (⟨#[]⟩ : ByteArray)]) (t := 77) ?_; intro gb102 hg w18 hbox hb; have BK102 := ak_ (hbox); have GW102 := ge_ hg; have GE102 := ge_ hg; replace HB := hb_ hb; clear hb hbox hg; obtain ⟨hcz19_0, hcz19_1⟩ := cl2_ BK102; obtain ⟨hfz19_0, hfz19_1⟩ := fz2_ BK102) | (go_at_call 72; (with_reducible refine (item_right.calls ((rd_T77 l0 x7_1).f0) ((rd_T77 l0 x7_1).f1) false _ A5.out).mono ?_); rintro e w' ⟨rfl, ⟨nd, rfl⟩⟩; (try first | exact ⟨rfl, _, World.drewN_drewN _ _ _⟩ | exact ⟨rfl, _, Eq.trans (World.drewN_drewN _ _ _) (congrArg (World.drewN _) (Nat.add_assoc _ _ _))⟩))))
      go_ret
      exact ⟨by first | rfl | (simp [errW_none, errW_some] <;> rfl) | (simp [*, errW_none, errW_some] <;> rfl), bel_⟩
     rw [if_neg c4] at H
     exact absurd H (by simp)
    rw [if_neg c3] at H
    exact absurd H (by simp)
   rw [if_neg c2] at H
   have c2b0 : decide (x7_1 < (l0.length : Int)) = false := decide_eq_false c2
   clear c2
   obtain rfl := Option.some.inj H
   go_wp2
   repeat (go_quiet (fail); try go_wp2)
   go_ret
   exact ⟨by first | rfl | (simp [errW_none, errW_some] <;> rfl) | (simp [*, errW_none, errW_some] <;> rfl), bel_⟩
end Go.Proofs.YtfkofbabeghgkaaGreat.Z
end

section
namespace Go.Proofs.YtfkofbabeghgkaaGreat.Z
attribute [local go_sem ↓] Go.wp_at_zero Go.wp_at_succ
def VS.put1 (s : VS) (a : Int) (y : INd) : VS := { s with ino := fun c => if c = a then some y else s.ino c, n := s.n + 1 }
def VS.put2 (s : VS) (a : Int) (y : Int × Int) : VS := { s with up := fun c => if c = a then some y else s.up c, n := s.n + 1 }
def VS.add (s : VS) (x : KItm) : VS := { s with all := s.all ++ [x] }
def parseL (k : Nat) : List VIT → VS → Option (Option VS)
 | [], s => some (some s)
 | x :: r, s => (inode_Parse.f k x.f0).bind fun q => if q.2.2.2.2 = 0 then
   (if 0 ≤ q.2.1 ∧ q.2.1 < 4294967296 ∧ s.all.length < 4398046511104 then
    (if q.1 = 1 then (inode_Decode.f k x.f1).bind fun n => if n.2.2.2.2.2 = 0 then parseL k r ((s.add ⟨q.1, q.2.1, q.2.2.1, q.2.2.2.1, x.f1⟩).put1 q.2.1 ⟨n.1, n.2.1, n.2.2.1, n.2.2.2.1, n.2.2.2.2.1⟩) else some none
     else if q.1 = 2 then (dirs_number.f k x.f1).bind fun t => parseL k r ((s.add ⟨q.1, q.2.1, q.2.2.1, q.2.2.2.1, x.f1⟩).put2 t (wrap64 (((s.up t).getD (0, 0)).1 + 1), q.2.1))
     else parseL k r (s.add ⟨q.1, q.2.1, q.2.2.1, q.2.2.2.1, x.f1⟩)) else none) else some none
theorem parseL.mono : ∀ (l : List VIT) (s : VS) (k : Nat), LeO (parseL k l s) (parseL (k + 1) l s)
 | [], s, k => LeO.refl _
 | x :: r, s, k => by
  unfold parseL
  exact LeO.bind (inode_Parse.mono _ _) (fun q => LeO.ite (LeO.ite (LeO.ite (LeO.bind (inode_Decode.mono _ _) (fun n => LeO.ite (parseL.mono r _ k) (LeO.refl _))) (LeO.ite (LeO.bind (dirs_number.mono _ _) (fun t => parseL.mono r _ k)) (parseL.mono r _ k))) (LeO.none _)) (LeO.refl _))
def VS0 : VS := ⟨[], fun _ => none, fun _ => none, 0⟩
def parseF (k : Nat) (l : List VIT) : Option (Option VS) := (parseL k l VS0).bind fun o => match o with
 | none => some none
 | some s => (item_Check.f k l).bind fun c => if c = 0 ∧ ((s.ino 1).getD zI).kd = 1 then some (some s) else some none
theorem parseF.mono (l : List VIT) : ∀ k, LeO (parseF k l) (parseF (k + 1) l) := fun k => by
 unfold parseF
 refine LeO.bind (parseL.mono _ _ _) (fun o => ?_)
 cases o with
 | none => exact LeO.refl _
 | some s => exact LeO.bind (item_Check.mono _ _) (fun _ => LeO.refl _)
theorem info_kept : (Tryz.prog.info? 178).map (fun i => (i.zero, i.size, i.bytes)) = some (some (.agg #[.int .u8 0, .int .u32 0, .string ⟨#[]⟩, .int .u32 0, .string ⟨#[]⟩]), 5, 48) := by kernel_rfl
theorem VS0_ok : VS0.Ok := ⟨fun a q h => (by cases h), fun x h => (by cases h), by decide, by decide⟩
set_option maxRecDepth 100000 in
set_option maxHeartbeats 12800000 in
theorem parse_calls (k : Nat) (g : Nat) (A : Option Addr) (c : Nat) (l : List VIT) (d m sm : Int) (o : Option VS) (w : World) (hb : w.heap[g]? = some (volO (.slice A l.length c) (.slice none 0 0) (.map none) (.map none) d m sm false)) (hF : ∀ W', KeepBut w W' g none → Kd.C k77 W' A l.length l) (hc : l.length ≤ c) (h : parseF k l = some o) :
  Calls Tryz.prog 107 #[.pointer (some ⟨g, 0, none⟩)] w fun e w' => e = .returned (.bool o.isSome) ∧ Fr g w w' ∧ (∀ s, o = some s → VolR w' g w.heap.size (.slice A l.length c) d m sm false s) ∧ ∃ va vi vu, w'.heap[g]? = some (volO (.slice A l.length c) va vi vu d m sm false) := by
 have hlt := blk_lt hb
 unfold parseF at h
 obtain ⟨po, hpo, h⟩ := Option.bind_eq_some_iff.mp h
 have HPO := ak_ hpo
 have HO := ak_ h
 have HF := ak_ hF
 have HCC := ak_ hc
 have HLT := ak_ hlt
 have HB := ak_ hb
 have HMX := ak_ (Kd.C_max (hF w (KeepBut.refl _ _ _)))
 have c6 : w.cell? ⟨g, 6, none⟩ = some (.map none) := (blk_cell hb 6).trans rfl
 clear hpo h hF hc hlt hb c6
 go_enter Tryz.func107, Tryz.ntmps107
 go_wp2_with (first
  | ((with_reducible refine gate_dst (N := 12) rfl ?_); refine map_event (k := 63) rfl 148 rfl ?_; intro bi hbi w1 hm1 hb1; have M1 := ak_ hm1; have B1 := ak_ hb1; have GI := ak_ (show w.heap.size ≤ bi by omega); clear hm1 hb1 hbi)
  | ((with_reducible refine gate_dst (N := 13) rfl ?_); refine map_event (k := 63) rfl 149 rfl ?_; intro bu hbu w2 hm2 hb2; have M2 := ak_ hm2; have B2 := ak_ (below_step B1.out hb2); have N1 := ak_ (M1.out.below hb2); have GU := ak_ (show w.heap.size ≤ bu by have := B1.out.size; omega); have NE := ak_ (show bi ≠ bu by have := M1.out.lt; omega); have G2 := ak_ (blk_below HB.out B2.out); have c6 : w2.cell? ⟨g, 6, none⟩ = some (.map none) := (blk_cell G2.out 6).trans rfl; have c7 : (w2.setCell ⟨g, 6, none⟩ (.map (some bi))).cell? ⟨g, 7, none⟩ = some (.map none) := (blk_cell (blk_set G2.out 6 (.map (some bi))) 7).trans rfl; have f6 : w2.frozen? ⟨g, 6, none⟩ = false := blk_frozen G2.out 6; have f7 : w2.frozen? ⟨g, 7, none⟩ = false := blk_frozen G2.out 7; have c0 : ((w2.setCell ⟨g, 6, none⟩ (.map (some bi))).setCell ⟨g, 7, none⟩ (.map (some bu))).cell? ⟨g, 0, none⟩ = some (.slice A l.length c) := (blk_cell (blk_set (blk_set G2.out 6 (.map (some bi))) 7 (.map (some bu))) 0).trans rfl; clear hm2 hb2 hbu))
 have GN := ak_ (show bi ≠ g ∧ bu ≠ g by have := GI.out; have := GU.out; have := HLT.out; omega)
 have V3 := ak_ (show VolR ((w2.setCell ⟨g, 6, none⟩ (.map (some bi))).setCell ⟨g, 7, none⟩ (.map (some bu))) g w.heap.size (.slice A l.length c) d m sm false VS0 from
  ⟨.slice none 0 0, bi, bu, blk_set (blk_set G2.out 6 _) 7 _, Kd.R_nil _ _ _ _ _, (N1.out.move ((Below.heap_setCell _ ⟨g, 7, none⟩ _ bi GN.out.1).trans (Below.heap_setCell _ ⟨g, 6, none⟩ _ bi GN.out.1))).congr (fun _ => rfl), (M2.out.move ((Below.heap_setCell _ ⟨g, 7, none⟩ _ bu GN.out.2).trans (Below.heap_setCell _ ⟨g, 6, none⟩ _ bu GN.out.2))).congr (fun _ => rfl), GI.out, GU.out, NE.out, HLT.out, VS0_ok⟩)
 have F3 := ak_ (show Fr g w ((w2.setCell ⟨g, 6, none⟩ (.map (some bi))).setCell ⟨g, 7, none⟩ (.map (some bu))) from ((Fr.of_below B2.out).setg 6 _).setg 7 _)
 generalize ((w2.setCell ⟨g, 6, none⟩ (.map (some bi))).setCell ⟨g, 7, none⟩ (.map (some bu))) = w3 at V3 F3 c0 ⊢
 clear c0 c6 c7 f6 f7 M1 B1 M2 B2 N1 G2 HB GI GU NE GN
 go_loopw [23] (fun vi wr => ∃ (i : Int) (s : VS), vi = .int .i64 i ∧ Aside0 (0 ≤ i ∧ i ≤ l.length) ∧ Aside0 (VolR wr g w.heap.size (.slice A l.length c) d m sm false s) ∧ Aside0 (Fr g w wr) ∧ Aside0 (parseL k (l.drop i.toNat) s = some po)) (fun vi _ => l.length - (intOf vi).toNat)
 case atStart => exact ⟨0, VS0, rfl, ⟨by omega⟩, V3, F3, HPO⟩
 case round =>
  obtain ⟨i, s, rfl, HI, HV, HFR, HP⟩ := hrel
  obtain ⟨hi0, hi1⟩ := HI.out
  by_cases hlt : i < (l.length : Int)
  ·have hlt2 : decide (i < (l.length : Int)) = true := decide_eq_true hlt
   have p0 := eq_true hi0
   have p1 := eq_true hlt
   obtain ⟨x, hx⟩ : ∃ x, x = rd_T77 l i := ⟨_, rfl⟩
   obtain ⟨ad, hAd, k0, k1⟩ := at_T77 (HF.out wr HFR.out.1) i hi0 hlt
   subst hAd
   rw [← hx] at k0 k1
   have hR0 := HP.out
   rw [drop_IT hi0 hlt, ← hx, parseL] at hR0
   obtain ⟨⟨q1, q2, q3, q4, q5⟩, hpa, hR⟩ := Option.bind_eq_some_iff.mp hR0
   clear hR0
   simp only at hR
   have HPA := ak_ hpa
   have ew : wrap64 (i + 1) = i + 1 := by have := HMX.out; unfold wrap64; omega
   have EW := ak_ ew
   have LT := ak_ hlt
   clear hpa hlt hi0 hi1 ew hx
   by_cases h5 : q5 = 0
   ·rw [if_pos h5] at hR
    subst h5
    split at hR
    case isFalse => cases hR
    case isTrue hq =>
    have HQ := ak_ hq
    have HRR := ak_ hR
    clear hR hq
    go_wp2_with (first
     | ((with_reducible refine gate_dst (N := 4) rfl ?_); refine var_event (N := 4) (T := 77) (n := 2) (zc := #[.string ⟨#[]⟩, .string ⟨#[]⟩]) (cs := #[.string x.f0, .string x.f1]) rfl rfl rfl (.tmp 26) rfl rfl ?hr (by kernel_rfl) rfl rfl rfl ?hx ?hN ?_; (case hx => intro p_; rfl); (case hN => intro p_; rfl); (case hr => first | (go_simp; done) | (go_simp; rfl)); intro gx hgx w4 hx4 hb4; have X4 := ak_ hx4; have B4 := ak_ hb4; have y0 : w4.cell? ⟨gx, 0, none⟩ = some (.string x.f0) := (blk_cell X4.out 0).trans rfl; clear hx4 hb4 hgx k0 k1)
     | (go_at_call 130; refine (inode_Parse.calls k x.f0 q1 q2 q3 q4 0 _ HPA.out).mono ?_; rintro e w5 ⟨rfl, hb5⟩; have X5 := ak_ (blk_below X4.out hb5); have B5 := ak_ (below_step B4.out hb5); clear hb5 y0)
     | ((with_reducible refine gate_dst (N := 5) rfl ?_); refine var_event (N := 5) (T := 106) (n := 4) (zc := #[.int .u8 0, .int .u32 0, .string ⟨#[]⟩, .int .u32 0]) (cs := #[.int .u8 q1, .int .u32 q2, .string q3, .int .u32 q4]) rfl rfl rfl (.tmp 31) rfl rfl ?hr (by kernel_rfl) rfl rfl rfl ?hx ?hN ?_; (case hx => intro p_; rfl); (case hN => intro p_; rfl); (case hr => first | (go_simp; done) | (go_simp; rfl)); intro gk hgk w6 hx6 hb6; have K6 := ak_ hx6; have X6 := ak_ (blk_below X5.out hb6); have B6 := ak_ (below_step B5.out hb6); clear hx6 hb6 hgk))
    have hv := HV.out.below B6.out
    obtain ⟨va, bi2, bu2, hG, hA, hI, hU, hbi, hbu, hne, hgb, hok⟩ := hv
    obtain ⟨A0, c0, rfl⟩ := Kd.R_slice hA
    have G6 := ak_ hG
    have A6 := ak_ hA
    have I6 := ak_ hI
    have U6 := ak_ hU
    have HBI := ak_ (And.intro hbi hbu)
    have HNE := ak_ hne
    have HGB := ak_ hgb
    have HOK := ak_ hok
    have D6 := ak_ (show Below w6.heap.size w6 w6.drew from below_drew1 (Below.refl _ _))
    clear hG hA hI hU hbi hbu hne hgb hok
    refine start_ (n := 14) (S := (fun w' => w'.cell? ⟨g, 5, none⟩ = some (.slice A0 s.all.length c0) ∧ w'.cell? ⟨gk, 0, none⟩ = some (.int .u8 q1) ∧ w'.cell? ⟨gk, 1, none⟩ = some (.int .u32 q2) ∧ w'.cell? ⟨gk, 2, none⟩ = some (.string q3) ∧ w'.cell? ⟨gk, 3, none⟩ = some (.int .u32 q4) ∧ w'.cell? ⟨gx, 1, none⟩ = some (.string x.f1))) (ds := [13]) #[false, false, false, false, false, false, false, false, false, false, false, false, false, false] (by kernel_rfl) rfl rfl ⟨(blk_cell (blk_below G6.out D6.out) 5).trans rfl, (blk_cell (blk_below K6.out D6.out) 0).trans rfl, (blk_cell (blk_below K6.out D6.out) 1).trans rfl, (blk_cell (blk_below K6.out D6.out) 2).trans rfl, (blk_cell (blk_below K6.out D6.out) 3).trans rfl, (blk_cell (blk_below X6.out D6.out) 1).trans rfl⟩ (fun hHeld => ?_)
    refine pu_ 0 35 ?_
    refine pu_ 1 36 ?_
    refine pu_ 2 37 ?_
    refine pu_ 3 38 ?_
    refine tk6_ 4 39 ?_
    refine tk6_ 5 40 ?_
    refine pu_ 6 41 ?_
    refine tk6_ 7 42 ?_
    refine pu_ 8 43 ?_
    refine on_ 9 44 (fun K hK => ?_)
    refine Kd.R_lit_step kKept (w0 := w6.drew) w6.drew.heap.size 178 (by rfl) (N := 44) rfl (xs := [(⟨q1, q2, q3, q4, x.f1⟩ : KItm)]) (inner := [.int .u8 q1, .int .u32 q2, .string q3, .int .u32 q4, .string x.f1]) (ok := fun _ => True) (okp := fun _ => True) (by first | (go_simp; done) | (go_simp; rfl)) (Reps.c5 (kKept_mkM _ _ _ (⟨q1, q2, q3, q4, x.f1⟩ : KItm)) (Reps.none _ _)) (fun _ hk => hk) trivial (Below.refl _ _) (Nat.le_refl _) (by simp) ?_
    intro v8 w8 ho hb hg_ hnew_
    have R8 := ak_ ho
    have B8 := ak_ (show Below w6.heap.size w6 w8 from below_then D6.out D6.out.size hb)
    obtain ⟨A8, c8, rfl⟩ := Kd.R_slice ho
    clear ho hb hg_ hnew_
    refine hK.out _ _ ⟨(blk_cell (blk_below G6.out B8.out) 5).trans rfl, (blk_cell (blk_below K6.out B8.out) 0).trans rfl, (blk_cell (blk_below K6.out B8.out) 1).trans rfl, (blk_cell (blk_below K6.out B8.out) 2).trans rfl, (blk_cell (blk_below K6.out B8.out) 3).trans rfl, (blk_cell (blk_below X6.out B8.out) 1).trans rfl⟩ (fun hHeld => ?_)
    clear hK K
    refine nm_ 44 ?_
    refine on_ 10 45 (fun K hK => ?_)
    refine append_wide_step (d := kKept) (fun h => h) w.heap.size (by rfl) (.tmp 39) (.tmp 44) 147 178 (.agg #[.int .u8 0, .int .u32 0, .string ⟨#[]⟩, .int .u32 0, .string ⟨#[]⟩]) 48 rfl Tryz.underlying147 info_kept rfl (by decide) (.slice A0 s.all.length c0) s.all [(⟨q1, q2, q3, q4, x.f1⟩ : KItm)] _ _ _ rfl rfl (Kd.R_below A6.out B8.out) (Kd.R_reads' R8.out).2.2 (Nat.le_trans HFR.out.size (Nat.le_trans B6.out.size B8.out.size)) (by have := HQ.out.2.2; simp; omega) (by have := HQ.out.2.2; unfold maxLen; simp; omega) ?_
    intro v9 w9 ho hg
    have R9 := ak_ ho
    have GR := ak_ hg
    have G9 := ak_ (blk_grown (blk_below G6.out B8.out) hg (row_low (Kd.R_below A6.out B8.out) HGB.out))
    have K9 := ak_ (blk_grown (blk_below K6.out B8.out) hg (Kd.R_ne (Kd.R_below A6.out B8.out) (blk_below K6.out B8.out) (by decide)))
    have X9 := ak_ (blk_grown (blk_below X6.out B8.out) hg (Kd.R_ne (Kd.R_below A6.out B8.out) (blk_below X6.out B8.out) (by decide)))
    clear ho hg
    refine hK.out _ _ ⟨(blk_cell G9.out 5).trans rfl, (blk_cell K9.out 0).trans rfl, (blk_cell K9.out 1).trans rfl, (blk_cell K9.out 2).trans rfl, (blk_cell K9.out 3).trans rfl, (blk_cell X9.out 1).trans rfl⟩ (fun hHeld => ?_)
    clear hK K
    refine nm_ 45 ?_
    obtain ⟨A9, c9, hv9⟩ := Kd.R_slice R9.out
    obtain ⟨n9, hn9⟩ : ∃ n9, n9 = (s.all ++ [(⟨q1, q2, q3, q4, x.f1⟩ : KItm)]).length := ⟨_, rfl⟩
    rw [← hn9] at hv9
    subst hv9
    clear hn9
    have f5 : w9.frozen? ⟨g, 5, none⟩ = false := blk_frozen G9.out 5
    refine pu_ 11 46 ?_
    refine pu_ 12 47 ?_
    refine last_ (i := 13) (N := none) #[true, true, true, true, true, true, true, true, true, true, true, true, true, true] rfl rfl (by kernel_rfl) (by decide) (fun K hK => ?_)
    refine skip_ (w1 := ?_) (by rfl) rfl ?_ ?_
    rotate_left
    ·go_simp
     rfl
    refine hK.out _ _ ?_
    clear hK K
    refine done_ (by kernel_rfl) ?_
    have V10 := ak_ (VolR.push (x := (⟨q1, q2, q3, q4, x.f1⟩ : KItm)) (blk_below G6.out B8.out) (Kd.R_below A6.out B8.out) (I6.out.below B8.out) (U6.out.below B8.out) HBI.out.1 HBI.out.2 HNE.out HGB.out HOK.out R9.out GR.out ⟨HQ.out.1, HQ.out.2.1⟩ HQ.out.2.2)
    have F10 := ak_ ((((HFR.out.below B6.out).below B8.out).grown GR.out (row_base A6.out)).setg 5 (.slice A9 n9 c9))
    have K10 := ak_ (blk_far (p := ⟨g, 5, none⟩) K9.out (blk_ne K9.out G9.out (by decide)) (.slice A9 n9 c9))
    have X10 := ak_ (blk_far (p := ⟨g, 5, none⟩) X9.out (blk_ne X9.out G9.out (by decide)) (.slice A9 n9 c9))
    clear hHeld f5 G6 A6 I6 U6 B8 R8 GR R9 K9 X9 G9 K6 X6 X4 X5 B4 B5 D6 HPA V3 F3
    generalize w9.setCell ⟨g, 5, none⟩ (.slice A9 n9 c9) = w10 at V10 F10 K10 X10 ⊢
    have y0 : w10.cell? ⟨gk, 0, none⟩ = some (.int .u8 q1) := (blk_cell K10.out 0).trans rfl
    have HLN := ak_ (show s.n + 1 ≤ (s.add (⟨q1, q2, q3, q4, x.f1⟩ : KItm)).all.length ∧ s.n < maxLen by have := HOK.out.2.2.2; have := HQ.out.2.2; unfold maxLen; simp [VS.add]; omega)
    have hR := HRR.out
    clear HRR
    by_cases k1 : q1 = 1
    ·rw [if_pos k1] at hR
     subst k1
     obtain ⟨⟨n1, n2, n3, n4, n5, n6⟩, hn, hR⟩ := Option.bind_eq_some_iff.mp hR
     simp only at hR
     have HN := ak_ hn
     have y1 : w10.cell? ⟨gx, 1, none⟩ = some (.string x.f1) := (blk_cell X10.out 1).trans rfl
     clear hn
     by_cases h6 : n6 = 0
     ·rw [if_pos h6] at hR
      subst h6
      have HRR := ak_ hR
      clear hR
      go_wp2_with (first
       | (go_at_call 131; refine (inode_Decode.calls k x.f1 n1 n2 n3 n4 n5 0 _ HN.out).mono ?_; rintro e w11 ⟨rfl, hb11⟩; have B11 := ak_ hb11; clear hb11 y0 y1)
       | ((with_reducible refine gate_dst (N := 7) rfl ?_); refine var_event (N := 7) (T := 100) (n := 5) (zc := #[.int .u8 0, .int .u16 0, .int .u32 0, .int .u32 0, .string ⟨#[]⟩]) (cs := #[.int .u8 n1, .int .u16 n2, .int .u32 n3, .int .u32 n4, .string n5]) rfl rfl rfl (.tmp 56) rfl rfl ?hr (by kernel_rfl) rfl rfl rfl ?hx ?hN ?_; (case hx => intro p_; rfl); (case hN => intro p_; rfl); (case hr => first | (go_simp; done) | (go_simp; rfl)); intro gn hgn w12 hx12 hb12; have N12 := ak_ hx12; have B12 := ak_ (below_step B11.out hb12); clear hx12 hb12 hgn))
      have hv := V10.out.below B12.out
      obtain ⟨va, bi3, bu3, hG, hA, hI, hU, hbi, hbu, hne, hgb, hok⟩ := hv
      have G12 := ak_ hG
      have A12 := ak_ hA
      have I12 := ak_ hI
      have U12 := ak_ hU
      have HB12 := ak_ (And.intro hbi hbu)
      have HNE12 := ak_ hne
      have HOK12 := ak_ hok
      have K12 := ak_ (blk_below K10.out B12.out)
      clear hG hA hI hU hbi hbu hne hgb hok
      refine start_ (n := 8) (S := (fun w' => w'.cell? ⟨g, 6, none⟩ = some (.map (some bi3)) ∧ w'.cell? ⟨gk, 1, none⟩ = some (.int .u32 q2) ∧ w'.cell? ⟨gn, 0, none⟩ = some (.int .u8 n1) ∧ w'.cell? ⟨gn, 1, none⟩ = some (.int .u16 n2) ∧ w'.cell? ⟨gn, 2, none⟩ = some (.int .u32 n3) ∧ w'.cell? ⟨gn, 3, none⟩ = some (.int .u32 n4) ∧ w'.cell? ⟨gn, 4, none⟩ = some (.string n5))) (ds := [7]) #[false, false, false, false, false, false, false, false] (by kernel_rfl) rfl rfl ⟨(blk_cell (blk_below G12.out (show Below w12.heap.size w12 w12.drew from below_drew1 (Below.refl _ _))) 6).trans rfl, (blk_cell (blk_below K12.out (show Below w12.heap.size w12 w12.drew from below_drew1 (Below.refl _ _))) 1).trans rfl, (blk_cell (blk_below N12.out (show Below w12.heap.size w12 w12.drew from below_drew1 (Below.refl _ _))) 0).trans rfl, (blk_cell (blk_below N12.out (show Below w12.heap.size w12 w12.drew from below_drew1 (Below.refl _ _))) 1).trans rfl, (blk_cell (blk_below N12.out (show Below w12.heap.size w12 w12.drew from below_drew1 (Below.refl _ _))) 2).trans rfl, (blk_cell (blk_below N12.out (show Below w12.heap.size w12 w12.drew from below_drew1 (Below.refl _ _))) 3).trans rfl, (blk_cell (blk_below N12.out (show Below w12.heap.size w12 w12.drew from below_drew1 (Below.refl _ _))) 4).trans rfl⟩ (fun hHeld => ?_)
      refine pu_ 0 60 ?_
      refine pu_ 1 61 ?_
      refine pu_ 2 62 ?_
      refine tk7_ 3 63 ?_
      refine pu_ 4 64 ?_
      refine tk7_ 5 65 ?_
      refine tk7_ 6 66 ?_
      refine last_ (i := 7) (N := none) #[true, true, true, true, true, true, true, true] rfl rfl (by kernel_rfl) (by decide) (fun K hK => ?_)
      refine map_store_step (k := 63) (by rfl) (.tmp 63) (.tmp 65) (.tmp 66) 148 100 rfl rfl Tryz.underlying63 Tryz.underlying148 rfl (I12.out.move rfl : MapF Tryz.prog 63 w12.drew bi3 _ _) HLN.out.2 q2 rfl (u32wf ⟨HQ.out.1, HQ.out.2.1⟩) (inoV ⟨n1, n2, n3, n4, n5⟩) rfl ?_
      intro w13 hm13 hg13
      have V13 := ak_ (show VolR w13 g w.heap.size (.slice (some ad) l.length c) d m sm false ((s.add (⟨1, q2, q3, q4, x.f1⟩ : KItm)).put1 q2 ⟨n1, n2, n3, n4, n5⟩) from VolR.stI (w := w12.drew) (va := va) (bi := bi3) (bu := bu3) (v' := va) (s := s.add (⟨1, q2, q3, q4, x.f1⟩ : KItm)) G12.out (Kd.R_below A12.out (show Below w12.heap.size w12 w12.drew from below_drew1 (Below.refl _ _))) (I12.out.move rfl) (U12.out.move rfl) HB12.out.1 HB12.out.2 HNE12.out HGB.out HOK12.out hm13 hg13 HLN.out.1)
      have F13 := ak_ (show Fr g w w13 from ((F10.out.below B12.out).below (show Below w12.heap.size w12 w12.drew from below_drew1 (Below.refl _ _))).grown hg13 (fun b hb => by obtain rfl := Option.some.inj hb; exact HB12.out.1))
      refine hK.out _ _ ?_
      clear hK K hm13 hg13
      refine done_ (by kernel_rfl) ?_
      clear hHeld
      go_wp2
      have hi := HI.out
      have hl := LT.out
      go_roundw
      case rel => exact ⟨i + 1, _, by rw [EW.out], ⟨by omega⟩, V13, F13, HRR⟩
      case measure =>
       simp [EW.out, intOf]
       omega
     ·rw [if_neg h6] at hR
      have e6 : (n6 != 0) = true := bne_iff_ne.2 h6
      have HRR := ak_ hR
      clear hR h6
      go_wp2_with (first
       | (go_at_call 131; refine (inode_Decode.calls k x.f1 n1 n2 n3 n4 n5 n6 _ HN.out).mono ?_; rintro e w11 ⟨rfl, hb11⟩; have B11 := ak_ hb11; clear hb11 y0 y1)
       | ((with_reducible refine gate_dst (N := 7) rfl ?_); refine var_event (N := 7) (T := 100) (n := 5) (zc := #[.int .u8 0, .int .u16 0, .int .u32 0, .int .u32 0, .string ⟨#[]⟩]) (cs := #[.int .u8 n1, .int .u16 n2, .int .u32 n3, .int .u32 n4, .string n5]) rfl rfl rfl (.tmp 56) rfl rfl ?hr (by kernel_rfl) rfl rfl rfl ?hx ?hN ?_; (case hx => intro p_; rfl); (case hN => intro p_; rfl); (case hr => first | (go_simp; done) | (go_simp; rfl)); intro gn hgn w12 hx12 hb12; have N12 := ak_ hx12; have B12 := ak_ (below_step B11.out hb12); clear hx12 hb12 hgn))
      go_ret
      have hv := V10.out.below B12.out
      obtain ⟨va, bi2, bu2, hG, _⟩ := hv
      have ho := HO.out
      rw [← Option.some.inj HRR.out] at ho
      obtain rfl := Option.some.inj ho
      exact ⟨rfl, F10.out.below B12.out, (fun s hs => by cases hs), va, _, _, hG⟩
    ·rw [if_neg k1] at hR
     have e1 : (q1 == 1) = false := beq_eq_false_iff_ne.2 k1
     clear k1
     by_cases k2 : q1 = 2
     ·rw [if_pos k2] at hR
      have e2 : (q1 == 2) = true := beq_iff_eq.2 k2
      obtain ⟨t, ht, hR⟩ := Option.bind_eq_some_iff.mp hR
      have HT := ak_ ht
      have HTW := ak_ (number_wf ht)
      have HRR := ak_ hR
      have y1 : w10.cell? ⟨gx, 1, none⟩ = some (.string x.f1) := (blk_cell X10.out 1).trans rfl
      clear hR k2 ht
      go_wp2_with (first | (go_at_call 132; refine (dirs_number.calls k x.f1 t _ HT.out).mono ?_; rintro e w12 ⟨rfl, hd12⟩; have B12 := ak_ hd12.below; clear hd12 y0 y1))
      have hv := V10.out.below B12.out
      obtain ⟨va, bi3, bu3, hG, hA, hI, hU, hbi, hbu, hne, hgb, hok⟩ := hv
      have G12 := ak_ hG
      have A12 := ak_ hA
      have I12 := ak_ hI
      have U12 := ak_ hU
      have HB12 := ak_ (And.intro hbi hbu)
      have HNE12 := ak_ hne
      have HOK12 := ak_ hok
      have K12 := ak_ (blk_below K10.out B12.out)
      clear hG hA hI hU hbi hbu hne hgb hok
      obtain ⟨y, hy⟩ : ∃ y, y = (s.up t).getD (0, 0) := ⟨_, rfl⟩
      rw [← hy] at HRR
      have HY := ak_ hy
      clear hy
      refine start_ (n := 17) (S := (fun w' => w'.cell? ⟨g, 7, none⟩ = some (.map (some bu3)) ∧ w'.cell? ⟨gk, 1, none⟩ = some (.int .u32 q2) ∧ (Instr.lookup 149 (.map (some bu3)) (.int .u32 t) false).run Tryz.prog w' = .ok (.agg #[.int .i64 y.1, .int .u32 y.2]) w')) (ds := [16]) #[false, false, false, false, false, false, false, false, false, false, false, false, false, false, false, false, false] (by kernel_rfl) rfl rfl ⟨(blk_cell (blk_below G12.out (show Below w12.heap.size w12 w12.drew from below_drew1 (Below.refl _ _))) 7).trans rfl, (blk_cell (blk_below K12.out (show Below w12.heap.size w12 w12.drew from below_drew1 (Below.refl _ _))) 1).trans rfl, (lookW (U12.out.move rfl : MapF Tryz.prog 63 w12.drew bu3 _ _) HTW.out HY.out)⟩ (fun hHeld => ?_)
      refine pu_ 0 72 ?_
      refine pu_ 1 73 ?_
      refine pu_ 2 74 ?_
      refine tk3_ 3 75 ?_
      refine pu_ 4 76 ?_
      refine pu_ 5 77 ?_
      refine pu_ 6 78 ?_
      refine pu_ 7 79 ?_
      refine tk3_ 8 80 ?_
      refine pu_ 9 81 ?_
      refine tk3_ 10 82 ?_
      refine pure_ (i := 11) (N := some 83) (v := ?_) (a' := ?_) #[true, true, true, true, true, true, true, true, true, true, true, true, false, false, false, false, false] rfl rfl (by kernel_rfl) (fun _ _ _ h => h) (Or.inl ⟨by rfl, ?_⟩) ?_ ?_
      rotate_left
      ·intro w'
       go_simp
       rfl
      rotate_left
      ·simp only [Act.put, List.setIfInBounds_toArray, List.set_cons_zero, List.set_cons_succ, i64_w, i32_w]
       rfl
      refine pu_ 12 84 ?_
      refine pu_ 13 85 ?_
      refine tk3_ 14 86 ?_
      refine pu_ 15 87 ?_
      refine last_ (i := 16) (N := none) #[true, true, true, true, true, true, true, true, true, true, true, true, true, true, true, true, true] rfl rfl (by kernel_rfl) (by decide) (fun K hK => ?_)
      refine map_store_step (k := 63) (by rfl) (.tmp 75) (.tmp 76) (.tmp 87) 149 181 rfl rfl Tryz.underlying63 Tryz.underlying149 rfl (U12.out.move rfl : MapF Tryz.prog 63 w12.drew bu3 _ _) HLN.out.2 t rfl (u32wf HTW.out) (upV (wrap64 (y.1 + 1), q2)) rfl ?_
      intro w13 hm13 hg13
      have V13 := ak_ (show VolR w13 g w.heap.size (.slice (some ad) l.length c) d m sm false ((s.add (⟨q1, q2, q3, q4, x.f1⟩ : KItm)).put2 t (wrap64 (y.1 + 1), q2)) from VolR.stU (w := w12.drew) (va := va) (bi := bi3) (bu := bu3) (v' := va) (s := s.add (⟨q1, q2, q3, q4, x.f1⟩ : KItm)) G12.out (Kd.R_below A12.out (show Below w12.heap.size w12 w12.drew from below_drew1 (Below.refl _ _))) (I12.out.move rfl) (U12.out.move rfl) HB12.out.1 HB12.out.2 HNE12.out HGB.out HOK12.out hm13 hg13 HLN.out.1 ⟨HQ.out.1, HQ.out.2.1⟩)
      have F13 := ak_ (show Fr g w w13 from ((F10.out.below B12.out).below (show Below w12.heap.size w12 w12.drew from below_drew1 (Below.refl _ _))).grown hg13 (fun b hb => by obtain rfl := Option.some.inj hb; exact HB12.out.2))
      refine hK.out _ _ ?_
      clear hK K hm13 hg13
      refine done_ (by kernel_rfl) ?_
      clear hHeld
      go_wp2
      have hi := HI.out
      have hl := LT.out
      go_roundw
      case rel => exact ⟨i + 1, _, by rw [EW.out], ⟨by omega⟩, V13, F13, HRR⟩
      case measure =>
       simp [EW.out, intOf]
       omega
     ·rw [if_neg k2] at hR
      have e2 : (q1 == 2) = false := beq_eq_false_iff_ne.2 k2
      have HRR := ak_ hR
      clear hR k2
      go_wp2
      have hi := HI.out
      have hl := LT.out
      go_roundw
      case rel => exact ⟨i + 1, s.add (⟨q1, q2, q3, q4, x.f1⟩ : KItm), by rw [EW.out], ⟨by omega⟩, V10, F10, HRR⟩
      case measure =>
       simp [EW.out, intOf]
       omega
   ·rw [if_neg h5] at hR
    have e5 : (q5 != 0) = true := bne_iff_ne.2 h5
    have HRR := ak_ hR
    clear hR h5
    go_wp2_with (first
     | ((with_reducible refine gate_dst (N := 4) rfl ?_); refine var_event (N := 4) (T := 77) (n := 2) (zc := #[.string ⟨#[]⟩, .string ⟨#[]⟩]) (cs := #[.string x.f0, .string x.f1]) rfl rfl rfl (.tmp 26) rfl rfl ?hr (by kernel_rfl) rfl rfl rfl ?hx ?hN ?_; (case hx => intro p_; rfl); (case hN => intro p_; rfl); (case hr => first | (go_simp; done) | (go_simp; rfl)); intro gx hgx w4 hx4 hb4; have X4 := ak_ hx4; have B4 := ak_ hb4; have y0 : w4.cell? ⟨gx, 0, none⟩ = some (.string x.f0) := (blk_cell X4.out 0).trans rfl; clear hx4 hb4 hgx k0 k1)
     | (go_at_call 130; refine (inode_Parse.calls k x.f0 q1 q2 q3 q4 q5 _ HPA.out).mono ?_; rintro e w5 ⟨rfl, hb5⟩; have X5 := ak_ (blk_below X4.out hb5); have B5 := ak_ (below_step B4.out hb5); clear hb5 y0)
     | ((with_reducible refine gate_dst (N := 5) rfl ?_); refine var_event (N := 5) (T := 106) (n := 4) (zc := #[.int .u8 0, .int .u32 0, .string ⟨#[]⟩, .int .u32 0]) (cs := #[.int .u8 q1, .int .u32 q2, .string q3, .int .u32 q4]) rfl rfl rfl (.tmp 31) rfl rfl ?hr (by kernel_rfl) rfl rfl rfl ?hx ?hN ?_; (case hx => intro p_; rfl); (case hN => intro p_; rfl); (case hr => first | (go_simp; done) | (go_simp; rfl)); intro gk hgk w6 hx6 hb6; have K6 := ak_ hx6; have X6 := ak_ (blk_below X5.out hb6); have B6 := ak_ (below_step B5.out hb6); clear hx6 hb6 hgk))
    go_ret
    have hv := HV.out.below B6.out
    obtain ⟨va, bi2, bu2, hG, _⟩ := hv
    have ho := HO.out
    rw [← Option.some.inj HRR.out] at ho
    obtain rfl := Option.some.inj ho
    exact ⟨rfl, HFR.out.below B6.out, (fun s hs => by cases hs), va, _, _, hG⟩
  ·have hge : decide (i < (l.length : Int)) = false := decide_eq_false hlt
   have hR := HP.out
   rw [List.drop_eq_nil_of_le (by omega), parseL] at hR
   have HRR := ak_ (Option.some.inj hR)
   clear hR hlt hi0 hi1
   have ho := HO.out
   rw [← HRR.out] at ho
   simp only at ho
   obtain ⟨ck, hck, ho⟩ := Option.bind_eq_some_iff.mp ho
   have HCK := ak_ hck
   obtain ⟨n1, hn1⟩ : ∃ n1, n1 = (s.ino 1).getD zI := ⟨_, rfl⟩
   rw [← hn1] at ho
   have HN1 := ak_ hn1
   have hv := HV.out
   obtain ⟨va, bi2, bu2, hG, hA, hI, hU, hbi, hbu, hne, hgb, hok⟩ := hv
   have G1 := ak_ hG
   have I1 := ak_ hI
   have q0 : wr.cell? ⟨g, 0, none⟩ = some (.slice A l.length c) := (blk_cell hG 0).trans rfl
   clear hG hA hI hU hbi hbu hne hgb hok hck hn1 V3 F3
   by_cases c0 : ck = 0
   ·subst c0
    have HOO := ak_ ho
    clear ho
    go_wp2_with (first | (go_at_call 40; refine (item_Check.calls k A c l 0 _ (HF.out _ HFR.out.1) HCC.out HCK.out).mono ?_; rintro e w2 ⟨rfl, hb2⟩; have B2 := ak_ hb2; have q6 : w2.cell? ⟨g, 6, none⟩ = some (.map (some bi2)) := (blk_cell (blk_below G1.out hb2) 6).trans rfl; have lk := lookN (I1.out.below hb2) (show (0 : Int) ≤ 1 ∧ (1 : Int) < 4294967296 by decide) HN1.out; have fl := fieldI n1; clear hb2 q0))
    go_ret
    have hv := HV.out.below B2.out
    have ho := HOO.out
    by_cases c1 : n1.kd = 1
    ·rw [if_pos ⟨(by first | rfl | trivial), c1⟩] at ho
     obtain rfl := Option.some.inj ho
     obtain ⟨va, bi3, bu3, hG, _⟩ := id hv
     refine ⟨?_, HFR.out.below B2.out, (fun s' hs => by obtain rfl := Option.some.inj hs; exact hv), va, _, _, hG⟩
     show Ending.returned (.bool (n1.kd == 1)) = _
     rw [beq_iff_eq.2 c1]
     rfl
    ·rw [if_neg (fun h => c1 h.2)] at ho
     obtain rfl := Option.some.inj ho
     obtain ⟨va, bi3, bu3, hG, _⟩ := hv
     refine ⟨?_, HFR.out.below B2.out, (fun s' hs => by cases hs), va, _, _, hG⟩
     show Ending.returned (.bool (n1.kd == 1)) = _
     rw [beq_eq_false_iff_ne.2 c1]
     rfl
   ·rw [if_neg (fun h => c0 h.1)] at ho
    have e0 : (ck == 0) = false := beq_eq_false_iff_ne.2 c0
    have HOO := ak_ ho
    clear ho c0
    go_wp2_with (first | (go_at_call 40; refine (item_Check.calls k A c l ck _ (HF.out _ HFR.out.1) HCC.out HCK.out).mono ?_; rintro e w2 ⟨rfl, hb2⟩; have B2 := ak_ hb2; have q6 : w2.cell? ⟨g, 6, none⟩ = some (.map (some bi2)) := (blk_cell (blk_below G1.out hb2) 6).trans rfl; have lk := lookN (I1.out.below hb2) (show (0 : Int) ≤ 1 ∧ (1 : Int) < 4294967296 by decide) HN1.out; have fl := fieldI n1; clear hb2 q0))
    go_ret
    obtain ⟨va, bi3, bu3, hG, _⟩ := HV.out.below B2.out
    obtain rfl := Option.some.inj HOO.out
    exact ⟨rfl, HFR.out.below B2.out, (fun s' hs => by cases hs), va, _, _, hG⟩
end Go.Proofs.YtfkofbabeghgkaaGreat.Z
end

section
namespace Go.Proofs.YtfkofbabeghgkaaGreat.Z
attribute [local go_sem ↓] Go.wp_at_zero Go.wp_at_succ
def lookAll (s : VS) : List KItm → Bool
 | [] => true
 | x :: r => if x.f0 = 1 ∧ ¬ x.f1 = 1 then
   (if IntKind.u64.wrap ((s.up x.f1).getD (0, 0)).1 = IntKind.u64.wrap ((s.ino x.f1).getD zI).ln then
    (if ((s.ino x.f1).getD zI).kd = 1 then (if rootedL s.up s.all.length x.f1 = true then lookAll s r else false) else lookAll s r) else false) else lookAll s r
def lookF (k : Nat) (l : List VIT) : Option (Option VS) := (parseF k l).bind fun o => match o with
 | none => some none
 | some s => (misfitL k s s.all).bind fun b => if b = true then some none else some (if lookAll s s.all = true then some s else none)
theorem lookF.mono (l : List VIT) : ∀ k, LeO (lookF k l) (lookF (k + 1) l) := fun k => by
 unfold lookF
 refine LeO.bind (parseF.mono _ _) (fun o => ?_)
 cases o with
 | none => exact LeO.refl _
 | some s => exact LeO.bind (misfitL.mono _ _ _) (fun _ => LeO.refl _)
theorem VolR.setR {w : World} {g base : Nat} {it : Value} {d m sm : Int} {r : Bool} {s : VS} (h : VolR w g base it d m sm r s) : VolR (w.setCell ⟨g, 4, none⟩ (.bool true)) g base it d m sm true s := by
 obtain ⟨va, bi, bu, hG, hA, hI, hU, hbi, hbu, hne, hgb, hok⟩ := h
 exact ⟨va, bi, bu, blk_set hG 4 _, row_setg hA hgb 4 _, hI.move (Below.heap_setCell _ ⟨g, 4, none⟩ _ bi (by show bi ≠ g; omega)), hU.move (Below.heap_setCell _ ⟨g, 4, none⟩ _ bu (by show bu ≠ g; omega)), hbi, hbu, hne, hgb, hok⟩
set_option maxRecDepth 100000 in
set_option maxHeartbeats 12800000 in
theorem look_calls (k : Nat) (g : Nat) (A : Option Addr) (c : Nat) (l : List VIT) (d m sm : Int) (o : Option VS) (w : World) (hb : w.heap[g]? = some (volO (.slice A l.length c) (.slice none 0 0) (.map none) (.map none) d m sm false)) (hF : ∀ W', KeepBut w W' g none → Kd.C k77 W' A l.length l) (hc : l.length ≤ c) (h : lookF k l = some o) :
  Calls Tryz.prog 80 #[.pointer (some ⟨g, 0, none⟩)] w fun e w' => e = .returned (.tuple #[]) ∧ Fr g w w' ∧ (∀ s, o = some s → VolR w' g w.heap.size (.slice A l.length c) d m sm true s) ∧ ∃ va vi vu, w'.heap[g]? = some (volO (.slice A l.length c) va vi vu d m sm o.isSome) := by
 unfold lookF at h
 obtain ⟨po, hpo, h⟩ := Option.bind_eq_some_iff.mp h
 have HB := ak_ hb
 have HF := ak_ hF
 have HCC := ak_ hc
 have HPO := ak_ hpo
 have HO := ak_ h
 have hnot : ∀ (x : Bool) (w : World), (Op.unary .not (.bool x)).run Tryz.prog w = .ok (.bool (!x)) w := fun _ _ => rfl
 have hmf : ∀ (fn : Fn) (first cap : Array Value) (w : World), (Instr.makeFunc fn first cap).run Tryz.prog w = .ok (.func fn first cap) w := fun _ _ _ _ => rfl
 clear hpo h hF hc hb
 cases po with
 | none =>
  go_enter Tryz.func80, Tryz.ntmps80
  go_wp2_with (first | (go_at_call 107; refine (parse_calls k g A c l d m sm none _ HB.out HF.out HCC.out HPO.out).mono ?_; rintro e w1 ⟨rfl, hf1, hv1, hb1⟩; have F1 := ak_ hf1; have B1 := ak_ hb1; clear hf1 hv1 hb1))
  refine bodyPost_ret (results_none rfl _ _ _) rfl ?_
  obtain rfl := Option.some.inj HO.out
  exact ⟨rfl, F1.out, (fun s hs => by cases hs), B1.out⟩
 | some s =>
  have ho := HO.out
  simp only at ho
  obtain ⟨mb, hmb, ho⟩ := Option.bind_eq_some_iff.mp ho
  have HMB := ak_ hmb
  have HOO := ak_ ho
  clear ho hmb HO
  cases mb with
  | true =>
   go_enter Tryz.func80, Tryz.ntmps80
   go_wp2_with (first | (go_at_call 107; refine (parse_calls k g A c l d m sm (some s) _ HB.out HF.out HCC.out HPO.out).mono ?_; rintro e w1 ⟨rfl, hf1, hv1, hb1⟩; have F1 := ak_ hf1; have V1 := ak_ (hv1 s rfl); obtain ⟨va, bi, bu, hG, hA, hI, hU, hbi, hbu, hne, hgb, hok⟩ := V1.out; obtain ⟨A1, c1, rfl⟩ := Kd.R_slice hA; have RA := ak_ (Kd.R_reads' hA); have HOK := ak_ hok; have G1 := ak_ hG; have MI1 := ak_ hI; have MU1 := ak_ hU; have q5 : w1.cell? ⟨g, 5, none⟩ = some (.slice A1 s.all.length c1) := (blk_cell hG 5).trans rfl; clear hf1 hv1 hb1 hG hA hI hU hbi hbu hne hgb hok) | (go_at_call 108; refine (kcontains_calls k A1 c1 g w.heap.size (.slice A l.length c) d m sm false s true _ V1.out RA.out.2.2 RA.out.2.1 HMB.out).mono ?_; rintro e w2 ⟨rfl, hb2⟩; clear q5; have B2 := ak_ hb2; have V2 := ak_ (V1.out.below hb2); have q5 : w2.cell? ⟨g, 5, none⟩ = some (.slice A1 s.all.length c1) := (blk_cell (blk_below G1.out hb2) 5).trans rfl; clear hb2))
   refine bodyPost_ret (results_none rfl _ _ _) rfl ?_
   obtain rfl := Option.some.inj HOO.out
   obtain ⟨va3, bi3, bu3, hG3, _⟩ := V1.out.below B2.out
   exact ⟨rfl, F1.out.below B2.out, (fun s hs => by cases hs), va3, _, _, hG3⟩
  | false =>
   have hoo := HOO.out
   rw [if_neg (by decide)] at hoo
   have HLO := ak_ (Option.some.inj hoo)
   clear hoo HOO
   go_enter Tryz.func80, Tryz.ntmps80
   go_wp2_with (first | (go_at_call 107; refine (parse_calls k g A c l d m sm (some s) _ HB.out HF.out HCC.out HPO.out).mono ?_; rintro e w1 ⟨rfl, hf1, hv1, hb1⟩; have F1 := ak_ hf1; have V1 := ak_ (hv1 s rfl); obtain ⟨va, bi, bu, hG, hA, hI, hU, hbi, hbu, hne, hgb, hok⟩ := V1.out; obtain ⟨A1, c1, rfl⟩ := Kd.R_slice hA; have RA := ak_ (Kd.R_reads' hA); have HOK := ak_ hok; have G1 := ak_ hG; have MI1 := ak_ hI; have MU1 := ak_ hU; have q5 : w1.cell? ⟨g, 5, none⟩ = some (.slice A1 s.all.length c1) := (blk_cell hG 5).trans rfl; clear hf1 hv1 hb1 hG hA hI hU hbi hbu hne hgb hok) | (go_at_call 108; refine (kcontains_calls k A1 c1 g w.heap.size (.slice A l.length c) d m sm false s false _ V1.out RA.out.2.2 RA.out.2.1 HMB.out).mono ?_; rintro e w2 ⟨rfl, hb2⟩; clear q5; have B2 := ak_ hb2; have V2 := ak_ (V1.out.below hb2); have q5 : w2.cell? ⟨g, 5, none⟩ = some (.slice A1 s.all.length c1) := (blk_cell (blk_below G1.out hb2) 5).trans rfl; clear hb2))
   have C2 := ak_ (Kd.C_below RA.out.2.2 B2.out)
   have G2 := ak_ (blk_below G1.out B2.out)
   clear h ho q5 RA HB
   go_loopw [22] (fun vi wr => ∃ i : Int, vi = .int .i64 i ∧ Aside0 (0 ≤ i ∧ i ≤ s.all.length) ∧ Aside0 (Below w2.heap.size w2 wr) ∧ Aside0 (lookAll s (s.all.drop i.toNat) = lookAll s s.all)) (fun vi _ => s.all.length - (intOf vi).toNat)
   case atStart => exact ⟨0, rfl, ⟨by omega⟩, ⟨Below.refl _ _⟩, ⟨rfl⟩⟩
   case round =>
    obtain ⟨i, rfl, HX, HBW, HRL⟩ := hrel
    obtain ⟨hi0, hi1⟩ := HX.out
    by_cases hlt : i < (s.all.length : Int)
    ·obtain ⟨ad, hAd, q0, q1, q2, q3, q4⟩ := at_Kept C2.out i hi0 hlt
     subst hAd
     replace q0 := (HBW.out.cell (World.block_lt_of_cell? w2 _ q0)).trans q0
     replace q1 := (HBW.out.cell (World.block_lt_of_cell? w2 _ q1)).trans q1
     replace q2 := (HBW.out.cell (World.block_lt_of_cell? w2 _ q2)).trans q2
     replace q3 := (HBW.out.cell (World.block_lt_of_cell? w2 _ q3)).trans q3
     replace q4 := (HBW.out.cell (World.block_lt_of_cell? w2 _ q4)).trans q4
     have hlt2 : decide (i < (s.all.length : Int)) = true := decide_eq_true hlt
     have p0 := eq_true hi0
     have p1 := eq_true hlt
     obtain ⟨x, hx⟩ : ∃ x, x = rd_Kept s.all i := ⟨_, rfl⟩
     have hR0 := HRL.out
     have hd := drop_Kept hi0 hlt
     have hmem : x ∈ s.all := List.mem_of_mem_drop (by rw [hd, ← hx]; exact List.mem_cons_self : x ∈ s.all.drop i.toNat)
     rw [hd, lookAll, ← hx] at hR0
     rw [← hx] at q0 q1 q2 q3 q4
     have HXR := ak_ (HOK.out.2.1 x hmem)
     have ew : wrap64 (i + 1) = i + 1 := by have := HOK.out.2.2.1; unfold wrap64; omega
     have EW := ak_ ew
     have LT := ak_ hlt
     have HR0 := ak_ hR0
     clear hmem hd ew hlt hi0 hi1 hx hR0
     by_cases hk : x.f0 = 1
     ·have e0 : (x.f0 != 1) = false := bne_eq_false_iff_eq.2 hk
      by_cases hk1 : x.f1 = 1
      ·have e1 : (x.f1 == 1) = true := beq_iff_eq.2 hk1
       have HR2 := ak_ (show lookAll s (s.all.drop (i + 1).toNat) = lookAll s s.all by have := HR0.out; rw [if_neg (fun h => h.2 hk1)] at this; exact this)
       clear HR0 hk hk1
       go_wp2_with (first | ((with_reducible refine gate_dst (N := 3) rfl ?_); refine var_event (N := 3) (T := 178) (n := 5) (zc := #[.int .u8 0, .int .u32 0, .string ⟨#[]⟩, .int .u32 0, .string ⟨#[]⟩]) (cs := #[.int .u8 x.f0, .int .u32 x.f1, .string x.f2, .int .u32 x.f3, .string x.f4]) rfl rfl rfl (.tmp 25) rfl rfl ?hr (by kernel_rfl) rfl rfl rfl ?hx ?hN ?_; (case hx => intro p_; rfl); (case hN => intro p_; rfl); (case hr => first | (go_simp; done) | (go_simp; rfl)); intro gx hgx w3 hx3 hb3; have X3 := ak_ hx3; have B3 := ak_ (below_step HBW.out hb3); have y0 : w3.cell? ⟨gx, 0, none⟩ = some (.int .u8 x.f0) := (blk_cell X3.out 0).trans rfl; have y1 : w3.cell? ⟨gx, 1, none⟩ = some (.int .u32 x.f1) := (blk_cell X3.out 1).trans rfl; clear hx3 hb3 hgx q0 q1 q2 q3 q4))
       have hx := HX.out
       have hl := LT.out
       go_roundw
       case rel => exact ⟨i + 1, by rw [EW.out], ⟨by omega⟩, ⟨B3.out⟩, HR2⟩
       case measure =>
        simp [EW.out, intOf]
        omega
      ·have e1 : (x.f1 == 1) = false := beq_eq_false_iff_ne.2 hk1
       obtain ⟨n, hn⟩ : ∃ n, n = (s.ino x.f1).getD zI := ⟨_, rfl⟩
       obtain ⟨y, hy⟩ : ∃ y, y = (s.up x.f1).getD (0, 0) := ⟨_, rfl⟩
       have hR := HR0.out
       rw [if_pos ⟨hk, hk1⟩, ← hn, ← hy] at hR
       have HR := ak_ hR
       have HN := ak_ hn
       have HY := ak_ hy
       clear hR hn hy hk hk1 HR0
       go_wp2_with (first | ((with_reducible refine gate_dst (N := 3) rfl ?_); refine var_event (N := 3) (T := 178) (n := 5) (zc := #[.int .u8 0, .int .u32 0, .string ⟨#[]⟩, .int .u32 0, .string ⟨#[]⟩]) (cs := #[.int .u8 x.f0, .int .u32 x.f1, .string x.f2, .int .u32 x.f3, .string x.f4]) rfl rfl rfl (.tmp 25) rfl rfl ?hr (by kernel_rfl) rfl rfl rfl ?hx ?hN ?_; (case hx => intro p_; rfl); (case hN => intro p_; rfl); (case hr => first | (go_simp; done) | (go_simp; rfl)); intro gx hgx w3 hx3 hb3; have X3 := ak_ hx3; have B3 := ak_ (below_step HBW.out hb3); have y0 : w3.cell? ⟨gx, 0, none⟩ = some (.int .u8 x.f0) := (blk_cell X3.out 0).trans rfl; have y1 : w3.cell? ⟨gx, 1, none⟩ = some (.int .u32 x.f1) := (blk_cell X3.out 1).trans rfl; clear hx3 hb3 hgx q0 q1 q2 q3 q4))
       have G3 := ak_ (blk_below G2.out B3.out)
       have V3 := ak_ (V2.out.below B3.out)
       have I3 := ak_ ((MI1.out.below B2.out).below B3.out)
       have U3 := ak_ ((MU1.out.below B2.out).below B3.out)
       refine start_ (n := 10) (S := (fun w' => w'.cell? ⟨g, 6, none⟩ = some (.map (some bi)) ∧ w'.cell? ⟨gx, 1, none⟩ = some (.int .u32 x.f1) ∧ (Instr.lookup 148 (.map (some bi)) (.int .u32 x.f1) false).run Tryz.prog w' = .ok (.agg #[.int .u8 n.kd, .int .u16 n.md, .int .u32 n.ln, .int .u32 n.sz, .string n.tg]) w')) (ds := [9]) #[false, false, false, false, false, false, false, false, false, false] (by kernel_rfl) rfl rfl ⟨(blk_cell (blk_below G3.out (show Below w3.heap.size w3 w3.drew from below_drew1 (Below.refl _ _))) 6).trans rfl, (blk_cell (blk_below X3.out (show Below w3.heap.size w3 w3.drew from below_drew1 (Below.refl _ _))) 1).trans rfl, (lookN (I3.out.move rfl : MapF Tryz.prog 63 w3.drew bi _ _) HXR.out HN.out)⟩ (fun hHeld => ?_)
       clear y0 y1
       refine pu_ 0 36 ?_
       refine pu_ 1 37 ?_
       refine pu_ 2 38 ?_
       refine tk3_ 3 39 ?_
       refine pu_ 4 40 ?_
       refine pu_ 5 41 ?_
       refine tk3_ 6 42 ?_
       refine tk3_ 7 43 ?_
       refine on_ 8 4 (fun K hK => ?_)
       refine box_step (N := 4) (cs := #[.int .u8 0, .int .u16 0, .int .u32 0, .int .u32 0, .string ⟨#[]⟩]) (t := 100) (by rfl) rfl (by first | (go_simp; done) | (go_simp; rfl)) ?_
       intro gn hgn w4 hx4 hb4
       have Z4 := ak_ hx4
       have B4 := ak_ (show Below w3.heap.size w3 w4 from (below_drew1 (Below.refl w3.heap.size w3)).trans hb4)
       have GN := ak_ (show w3.heap.size ≤ gn by rw [hgn]; exact Nat.le_refl _)
       clear hx4 hb4 hgn
       refine hK.out _ _ ⟨(blk_cell (blk_below G3.out B4.out) 6).trans rfl, (blk_cell (blk_below X3.out B4.out) 1).trans rfl, (lookN (I3.out.below B4.out) HXR.out HN.out)⟩ (fun hHeld => ?_)
       clear hK K
       refine nm_ 4 ?_
       refine last_ (i := 9) (N := none) #[true, true, true, true, true, true, true, true, true, true] rfl rfl (by kernel_rfl) (by decide) (fun K hK => ?_)
       refine var_store_step (cs := #[.int .u8 n.kd, .int .u16 n.md, .int .u32 n.ln, .int .u32 n.sz, .string n.tg]) (n := 5) (by rfl) (.tmp 4) (.tmp 43) rfl rfl rfl rfl (by kernel_rfl) Z4.out rfl rfl rfl ?_
       intro w5 hx5 hb5
       have Z5 := ak_ hx5
       have B5 := ak_ (hb5 _ _ B4.out GN.out)
       refine hK.out _ _ ?_
       clear hK K hx5 hb5 Z4
       refine done_ (by kernel_rfl) ?_
       clear hHeld B4 GN
       have X5 := ak_ (blk_below X3.out B5.out)
       have G5 := ak_ (blk_below G3.out B5.out)
       have U5 := ak_ (U3.out.below B5.out)
       have V5 := ak_ (V3.out.below B5.out)
       have BW := ak_ (below_step B3.out B5.out)
       clear X3 G3 U3 I3 V3 B5 B3
       go_wp2
       refine start_ (n := 27) (S := (fun w' => w'.cell? ⟨g, 7, none⟩ = some (.map (some bu)) ∧ w'.cell? ⟨gx, 1, none⟩ = some (.int .u32 x.f1) ∧ w'.cell? ⟨gn, 2, none⟩ = some (.int .u32 n.ln) ∧ w'.cell? ⟨gn, 0, none⟩ = some (.int .u8 n.kd) ∧ (Instr.lookup 149 (.map (some bu)) (.int .u32 x.f1) false).run Tryz.prog w' = .ok (.agg #[.int .i64 y.1, .int .u32 y.2]) w')) (ds := []) #[false, false, false, false, false, false, false, false, false, false, false, false, false, false, false, false, false, false, false, false, false, false, false, false, false, false, false] (by kernel_rfl) rfl rfl ⟨(blk_cell (blk_below G5.out (show Below w5.heap.size w5 w5.drew from below_drew1 (Below.refl _ _))) 7).trans rfl, (blk_cell (blk_below X5.out (show Below w5.heap.size w5 w5.drew from below_drew1 (Below.refl _ _))) 1).trans rfl, (blk_cell (blk_below Z5.out (show Below w5.heap.size w5 w5.drew from below_drew1 (Below.refl _ _))) 2).trans rfl, (blk_cell (blk_below Z5.out (show Below w5.heap.size w5 w5.drew from below_drew1 (Below.refl _ _))) 0).trans rfl, (lookW (U5.out.below (show Below w5.heap.size w5 w5.drew from below_drew1 (Below.refl _ _))) HXR.out HY.out)⟩ (fun hHeld => ?_)
       refine pu_ 0 44 ?_
       refine pu_ 1 45 ?_
       refine pu_ 2 46 ?_
       refine tk5_ 3 47 ?_
       refine pu_ 4 48 ?_
       refine pu_ 5 49 ?_
       refine tk5_ 6 50 ?_
       refine tk5_ 7 51 ?_
       refine pure_ (i := 8) (N := some 52) (v := ?_) (a' := ?_) #[true, true, true, true, true, true, true, true, true, false, false, false, false, false, false, false, false, false, false, false, false, false, false, false, false, false, false] rfl rfl (by kernel_rfl) (fun _ _ _ h => h) (Or.inl ⟨by rfl, ?_⟩) ?_ ?_
       rotate_left
       ·intro w'
        go_simp
        rfl
       rotate_left
       ·simp only [Act.put, List.setIfInBounds_toArray, List.set_cons_zero, List.set_cons_succ, i64_w, i32_w]
        rfl
       refine pu_ 9 53 ?_
       refine pu_ 10 54 ?_
       refine tk5_ 11 55 ?_
       refine pu_ 12 56 ?_
       refine pu_ 13 57 ?_
       refine pu_ 14 58 ?_
       generalize hcb : (IntKind.u64.wrap y.1 != IntKind.u64.wrap n.ln) = cb
       cases cb with
       | true =>
        refine un_ 15 59 ?_
        refine un_ 16 60 ?_
        refine un_ 17 61 ?_
        refine un_ 18 62 ?_
        refine un_ 19 63 ?_
        refine un_ 20 64 ?_
        refine un_ 21 65 ?_
        refine un_ 22 66 ?_
        refine un_ 23 67 ?_
        refine un_ 24 68 ?_
        refine un_ 25 69 ?_
        refine pu_ 26 70 ?_
        refine done_ (by kernel_rfl) ?_
        clear hHeld
        have h0 : ¬ IntKind.u64.wrap y.1 = IntKind.u64.wrap n.ln := bne_iff_ne.1 hcb
        have hR := HR.out
        rw [if_neg h0] at hR
        have hq := HLO.out
        rw [← hR, if_neg (by decide)] at hq
        obtain rfl := hq
        clear hR h0 hcb
        go_wp2
        refine bodyPost_ret (results_none rfl _ _ _) rfl ?_
        obtain ⟨va9, bi9, bu9, hG9, _⟩ := V5.out.below (show Below w5.heap.size w5 w5.drew from below_drew1 (Below.refl _ _))
        exact ⟨rfl, ((F1.out.below B2.out).below BW.out).below (show Below w5.heap.size w5 w5.drew from below_drew1 (Below.refl _ _)), (fun s hs => by cases hs), va9, _, _, hG9⟩
       | false =>
        have h0 : IntKind.u64.wrap y.1 = IntKind.u64.wrap n.ln := bne_eq_false_iff_eq.1 hcb
        have hR := HR.out
        rw [if_pos h0] at hR
        clear h0 hcb
        refine pu_ 15 59 ?_
        refine tk5_ 16 60 ?_
        refine pu_ 17 61 ?_
        refine pu_ 18 62 ?_
        generalize hkb : (n.kd == 1) = kb
        cases kb with
        | false =>
         rw [if_neg (beq_eq_false_iff_ne.1 hkb)] at hR
         have HR2 := ak_ hR
         clear hR hkb
         refine un_ 19 63 ?_
         refine un_ 20 64 ?_
         refine un_ 21 65 ?_
         refine un_ 22 66 ?_
         refine un_ 23 67 ?_
         refine un_ 24 68 ?_
         refine pu_ 25 69 ?_
         refine pu_ 26 70 ?_
         refine done_ (by kernel_rfl) ?_
         clear hHeld
         go_wp2
         have hx := HX.out
         have hl := LT.out
         go_roundw
         case rel => exact ⟨i + 1, by rw [EW.out], ⟨by omega⟩, ⟨below_step BW.out (show Below w5.heap.size w5 w5.drew from below_drew1 (Below.refl _ _))⟩, HR2⟩
         case measure =>
          simp [EW.out, intOf]
          omega
        | true =>
         rw [if_pos (beq_iff_eq.1 hkb)] at hR
         have HR1 := ak_ hR
         clear hR hkb
         refine pu_ 19 63 ?_
         refine pu_ 20 64 ?_
         refine pu_ 21 65 ?_
         refine tk5_ 22 66 ?_
         refine on_ 23 67 (fun K hK => ?_)
         refine goes_ Tryz.func110 (by kernel_rfl) rfl #[.pointer (some ⟨g, 0, none⟩), .int .u32 x.f1] (by rfl) rfl rfl (by (try simp only [List.map_toArray, List.map_cons, List.map_nil]); first | done | rfl) ?_
         refine (rooted_calls g w.heap.size (.slice A l.length c) d m sm false s x.f1 _ (V5.out.below (show Below w5.heap.size w5 w5.drew from below_drew1 (Below.refl _ _))) HXR.out).mono ?_
         rintro e w6 ⟨rfl, hb6⟩
         have B6 := ak_ (show Below w5.heap.size w5 w6 from below_then (show Below w5.heap.size w5 w5.drew from below_drew1 (Below.refl _ _)) (show Below w5.heap.size w5 w5.drew from below_drew1 (Below.refl _ _)).size hb6)
         clear hb6
         refine ⟨_, rfl, ?_⟩
         refine hK.out _ _ ⟨(blk_cell (blk_below G5.out B6.out) 7).trans rfl, (blk_cell (blk_below X5.out B6.out) 1).trans rfl, (blk_cell (blk_below Z5.out B6.out) 2).trans rfl, (blk_cell (blk_below Z5.out B6.out) 0).trans rfl, (lookW (U5.out.below B6.out) HXR.out HY.out)⟩ (fun hHeld => ?_)
         clear hK K
         refine nm_ 67 ?_
         generalize hrb : rootedL s.up s.all.length x.f1 = rb
         rw [hrb] at HR1
         cases rb with
         | true =>
          have HR2 := ak_ (show lookAll s (s.all.drop (i + 1).toNat) = lookAll s s.all by have := HR1.out; rw [if_pos rfl] at this; exact this)
          clear HR1 hrb
          refine pu_ 24 68 ?_
          refine pu_ 25 69 ?_
          refine pu_ 26 70 ?_
          refine done_ (by kernel_rfl) ?_
          clear hHeld
          go_wp2
          have hx := HX.out
          have hl := LT.out
          go_roundw
          case rel => exact ⟨i + 1, by rw [EW.out], ⟨by omega⟩, ⟨below_step BW.out B6.out⟩, HR2⟩
          case measure =>
           simp [EW.out, intOf]
           omega
         | false =>
          have hq := HLO.out
          have h1 := HR1.out
          rw [if_neg (by decide)] at h1
          rw [← h1, if_neg (by decide)] at hq
          clear h1
          obtain rfl := hq
          clear HR1 hrb
          refine pu_ 24 68 ?_
          refine pu_ 25 69 ?_
          refine pu_ 26 70 ?_
          refine done_ (by kernel_rfl) ?_
          clear hHeld
          go_wp2
          refine bodyPost_ret (results_none rfl _ _ _) rfl ?_
          obtain ⟨va9, bi9, bu9, hG9, _⟩ := V5.out.below B6.out
          exact ⟨rfl, ((F1.out.below B2.out).below BW.out).below B6.out, (fun s hs => by cases hs), va9, _, _, hG9⟩
     ·have e0 : (x.f0 != 1) = true := bne_iff_ne.2 hk
      have HR2 := ak_ (show lookAll s (s.all.drop (i + 1).toNat) = lookAll s s.all by have := HR0.out; rw [if_neg (fun h => hk h.1)] at this; exact this)
      clear HR0 hk
      go_wp2_with (first | ((with_reducible refine gate_dst (N := 3) rfl ?_); refine var_event (N := 3) (T := 178) (n := 5) (zc := #[.int .u8 0, .int .u32 0, .string ⟨#[]⟩, .int .u32 0, .string ⟨#[]⟩]) (cs := #[.int .u8 x.f0, .int .u32 x.f1, .string x.f2, .int .u32 x.f3, .string x.f4]) rfl rfl rfl (.tmp 25) rfl rfl ?hr (by kernel_rfl) rfl rfl rfl ?hx ?hN ?_; (case hx => intro p_; rfl); (case hN => intro p_; rfl); (case hr => first | (go_simp; done) | (go_simp; rfl)); intro gx hgx w3 hx3 hb3; have X3 := ak_ hx3; have B3 := ak_ (below_step HBW.out hb3); have y0 : w3.cell? ⟨gx, 0, none⟩ = some (.int .u8 x.f0) := (blk_cell X3.out 0).trans rfl; have y1 : w3.cell? ⟨gx, 1, none⟩ = some (.int .u32 x.f1) := (blk_cell X3.out 1).trans rfl; clear hx3 hb3 hgx q0 q1 q2 q3 q4))
      have hx := HX.out
      have hl := LT.out
      go_roundw
      case rel => exact ⟨i + 1, by rw [EW.out], ⟨by omega⟩, ⟨B3.out⟩, HR2⟩
      case measure =>
       simp [EW.out, intOf]
       omega
    ·have hge : decide (i < (s.all.length : Int)) = false := decide_eq_false hlt
     have hR := HRL.out
     rw [List.drop_eq_nil_of_le (by omega), lookAll] at hR
     have hq := HLO.out
     rw [← hR, if_pos rfl] at hq
     obtain rfl := hq
     have G9 := ak_ (blk_below G2.out HBW.out)
     have V9 := ak_ (V2.out.below HBW.out)
     have c4 : wr.cell? ⟨g, 4, none⟩ = some (.bool false) := (blk_cell G9.out 4).trans rfl
     have f4 : wr.frozen? ⟨g, 4, none⟩ = false := blk_frozen G9.out 4
     clear hR hlt hi0 hi1
     go_wp2
     go_end0
     have hv := V9.out.setR
     obtain ⟨va9, bi9, bu9, hG9, _⟩ := id hv
     exact ⟨rfl, ((F1.out.below B2.out).below HBW.out).setg 4 _, (fun s' hs => by obtain rfl := Option.some.inj hs; exact hv), va9, _, _, hG9⟩
end Go.Proofs.YtfkofbabeghgkaaGreat.Z
end

section
namespace Go.Proofs.YtfkofbabeghgkaaGreat.Z
attribute [local go_sem ↓] Go.wp_at_zero Go.wp_at_succ
theorem storeV (a : Addr) (x : Value) (u : FrameMode) (w : World) (hc : w.cell? a = some x) (hz : w.frozen? a = false) :
    CallsD Tryz.prog 129 #[.pointer (some a), .bool true] u w fun e u' w' => u' = u ∧ (e = .returned (.tuple #[]) ∧ w' = (w.setCell a (.int .u32 1)).drew) := by
  have hc' : w.drew.cell? a = some x := hc
  have hz' : w.drew.frozen? a = false := hz
  have hst := run_call_store (P := Tryz.prog) Tryz.func142 (by kernel_rfl) (by kernel_rfl) (by kernel_rfl) (by kernel_rfl) (k := .u32) (y := 1) hc' hz'
  go_enter_d Tryz.func129, Tryz.ntmps129
  go_wp2
  go_region_calls
  all_goals (go_end0; first | exact ⟨rfl, rfl, rfl⟩ | exact ⟨rfl, rfl⟩ | exact rfl)
set_option maxRecDepth 100000 in
set_option maxHeartbeats 1600000 in
theorem unlockV (a : Addr) (u : FrameMode) (w : World) (hc : w.cell? a = some (.int .i32 1)) (hz : w.frozen? a = false) :
    CallsD Tryz.prog 128 #[.pointer (some a)] u w fun e u' w' => u' = u ∧ (e = .returned (.tuple #[]) ∧ w' = w.setCell a (.int .i32 0)) := by
  have hd := disable
  have he := enable
  have hr := releaseMerge
  have hadd := run_call_add (P := Tryz.prog) Tryz.func153 (by kernel_rfl) (by kernel_rfl) (by kernel_rfl) .i32 (by kernel_rfl) (y := -1) (s := 0) hc hz (by simp [go_sem]; rfl)
  have hcv := run_convert_to_unsafe (P := Tryz.prog) (src := 207) (dst := 154) Tryz.underlying207 Tryz.underlying154 (by kernel_rfl) hc
  go_enter_d Tryz.func128, Tryz.ntmps128
  go_wp2
  go_end0
  go_wp2
  go_end0
  first | exact ⟨rfl, rfl, rfl⟩ | exact ⟨rfl, rfl⟩ | exact rfl
set_option maxRecDepth 100000 in
set_option maxHeartbeats 1600000 in
theorem lockV (a : Addr) (w : World) (hc : w.cell? a = some (.int .i32 0)) (hz : w.frozen? a = false) :
    Calls Tryz.prog 127 #[.pointer (some a)] w fun e w' => e = .returned (.tuple #[]) ∧ w' = w.setCell a (.int .i32 1) := by
  have hd := disable
  have he := enable
  have ha := acquire
  have hcas := run_call_cas_hit (P := Tryz.prog) Tryz.func148 (by kernel_rfl) (by kernel_rfl) (by kernel_rfl) .i32 (by kernel_rfl) (y := 1) hc hz
  have hc' : (w.setCell a (.int .i32 1)).cell? a = some (.int .i32 1) := World.cell?_setCell_same w a _ hc
  have hcv := run_convert_to_unsafe (P := Tryz.prog) (src := 207) (dst := 154) Tryz.underlying207 Tryz.underlying154 (by kernel_rfl) hc'
  go_enter Tryz.func127, Tryz.ntmps127
  go_wp2
  first | go_end0 | (simp only [Exit.inBlock, Exit.then]; refine bodyPost_ret (results_none rfl _ _ _) rfl ?_) | refine bodyPost_ret (results_none rfl _ _ _) rfl ?_
  go_wp2
  go_end0
  exact ⟨rfl, rfl⟩
theorem VolR.setJ {w : World} {g base : Nat} {it : Value} {d m sm d' m' : Int} {r : Bool} {s : VS} (j : Nat) (u : Value) (h : VolR w g base it d m sm r s)
    (he : ∀ va bi bu, (#[it, .int .u32 d, .int .i32 m, .int .u32 sm, .bool r, va, .map (some bi), .map (some bu)] : Array Value).setIfInBounds j u = #[it, .int .u32 d', .int .i32 m', .int .u32 sm, .bool r, va, .map (some bi), .map (some bu)]) : VolR (w.setCell ⟨g, j, none⟩ u) g base it d' m' sm r s := by
  obtain ⟨va, bi, bu, hG, hA, hI, hU, hbi, hbu, hne, hgb, hok⟩ := h
  refine ⟨va, bi, bu, ?_, row_setg hA hgb j _, hI.move (Below.heap_setCell _ ⟨g, j, none⟩ _ bi (by show bi ≠ g; omega)), hU.move (Below.heap_setCell _ ⟨g, j, none⟩ _ bu (by show bu ≠ g; omega)), hbi, hbu, hne, hgb, hok⟩
  have := blk_set hG j u
  rw [he va bi bu] at this
  exact this
theorem VolR.lower {w : World} {g base base' : Nat} {it : Value} {d m sm : Int} {r : Bool} {s : VS} (h : VolR w g base it d m sm r s) (hb : base' ≤ base) (hg : g < base') : VolR w g base' it d m sm r s := by
  obtain ⟨va, bi, bu, hG, hA, hI, hU, hbi, hbu, hne, hgb, hok⟩ := h
  exact ⟨va, bi, bu, hG, Kd.R_lower hA hb, hI, hU, Nat.le_trans hb hbi, Nat.le_trans hb hbu, hne, hg, hok⟩
theorem VolR.drew {w : World} {g base : Nat} {it : Value} {d m sm : Int} {r : Bool} {s : VS} (h : VolR w g base it d m sm r s) : VolR w.drew g base it d m sm r s := h.below (below_drew1 (Below.refl _ _))
set_option maxRecDepth 100000 in
set_option maxHeartbeats 3200000 in
theorem slowV (k : Nat) (g : Nat) (A : Option Addr) (c : Nat) (l : List VIT) (sm : Int) (o : Option VS) (w : World) (hb : w.heap[g]? = some (volO (.slice A l.length c) (.slice none 0 0) (.map none) (.map none) 0 0 sm false)) (hF : ∀ W', KeepBut w W' g none → Kd.C k77 W' A l.length l) (hc : l.length ≤ c) (h : lookF k l = some o) :
    Calls Tryz.prog 106 #[.pointer (some ⟨g, 1, none⟩), .func (.func 80) #[.pointer (some ⟨g, 0, none⟩)] #[]] w fun e w' => e = .returned (.tuple #[]) ∧ Fr g w w' ∧ (∀ s, o = some s → VolR w' g w.heap.size (.slice A l.length c) 1 0 sm true s) ∧ ∃ va vi vu, w'.heap[g]? = some (volO (.slice A l.length c) va vi vu 1 0 sm o.isSome) := by
  have hnot : ∀ (x : Bool) (w : World), (Op.unary .not (.bool x)).run Tryz.prog w = .ok (.bool (!x)) w := fun _ _ => rfl
  have HB := ak_ hb
  have HF := ak_ hF
  have HCC := ak_ hc
  have H := ak_ h
  have GS := ak_ (blk_lt hb)
  clear hb hF hc h
  go_enter_defers Tryz.func106, Tryz.ntmps106
  go_wp2_with (go_at_call 127; refine (lockV ⟨g, 2, none⟩ _ ((blk_cell HB.out 2).trans rfl) (blk_frozen HB.out 2)).mono ?_; rintro e w1 ⟨rfl, h1⟩; have B1 := ak_ (show w1.heap[g]? = some (volO (.slice A l.length c) (.slice none 0 0) (.map none) (.map none) 0 1 sm false) by rw [h1]; exact blk_set HB.out 2 _); have F1 := ak_ (show Fr g w w1 by rw [h1]; exact (Fr.refl g w).setg 2 _); have S1 := ak_ (show w1.heap.size = w.heap.size by rw [h1]; simp [World.setCell]); clear h1)
  go_wp2_with (first | (go_at_call 105; refine (loads_one ⟨g, 1, none⟩ 0 _ ((blk_cell B1.out 1).trans rfl)).mono ?_; rintro e w' ⟨rfl, rfl⟩) | (go_at_call 80; refine (look_calls k g A c l 0 1 sm o _ B1.out (fun W' hk => HF.out W' (F1.out.1.trans hk (.inl rfl))) HCC.out H.out).mono ?_; rintro e w2 ⟨rfl, hf2, hv2, hb2⟩; have F2 := ak_ (F1.out.trans hf2); have V2 := ak_ (fun s hs => (hv2 s hs).lower (Nat.le_of_eq S1.out.symm) GS.out); have B2 := ak_ hb2; clear hf2 hv2 hb2))
  obtain ⟨va, vi, vu, hB2⟩ := B2.out
  have C2 := ak_ hB2
  clear hB2
  refine leaves_cons (f := 129) (args := #[.pointer (some ⟨g, 1, none⟩), .bool true]) (by simp) (by simp [go_sem]) ?_
  refine (storeV ⟨g, 1, none⟩ (.int .u32 0) .returning _ ((blk_cell C2.out 1).trans rfl) (blk_frozen C2.out 1)).mono ?_
  rintro e u' w3 ⟨rfl, rfl, h3⟩
  have C3 := ak_ (show w3.heap[g]? = some (volO (.slice A l.length c) va vi vu 1 1 sm o.isSome) by rw [h3]; exact blk_drew (blk_set C2.out 1 _))
  have F3 := ak_ (show Fr g w w3 by rw [h3]; exact (F2.out.setg 1 _).below (below_drew1 (Below.refl _ _)))
  have V3 := ak_ (show ∀ s, o = some s → VolR w3 g w.heap.size (.slice A l.length c) 1 1 sm true s from fun s hs => by rw [h3]; exact (VolR.setJ 1 (.int .u32 1) (V2.out s hs) (fun _ _ _ => rfl)).drew)
  clear h3 V2 F2 B2 C2
  refine leaves_cons (f := 128) (args := #[.pointer (some ⟨g, 2, none⟩)]) (by simp [settle]) (by simp [go_sem]) ?_
  refine (unlockV ⟨g, 2, none⟩ _ _ ((blk_cell C3.out 2).trans rfl) (blk_frozen C3.out 2)).mono ?_
  rintro e u' w4 ⟨rfl, rfl, h4⟩
  have P4 : Aside0 (Fr g w w4 ∧ (∀ s, o = some s → VolR w4 g w.heap.size (.slice A l.length c) 1 0 sm true s) ∧ ∃ va vi vu, w4.heap[g]? = some (volO (.slice A l.length c) va vi vu 1 0 sm o.isSome)) :=
    ⟨by rw [h4]; exact F3.out.setg 2 _, fun s hs => by rw [h4]; exact VolR.setJ 2 (.int .i32 0) (V3.out s hs) (fun _ _ _ => rfl), va, vi, vu, by rw [h4]; exact blk_set C3.out 2 _⟩
  clear h4 V3 F3 C3 HB HF HCC H GS B1 F1 S1
  have P5 := P4.out
  generalize hP : (Fr g w w4 ∧ (∀ s, o = some s → VolR w4 g w.heap.size (.slice A l.length c) 1 0 sm true s) ∧ ∃ va vi vu, w4.heap[g]? = some (volO (.slice A l.length c) va vi vu 1 0 sm o.isSome)) = P at P5
  simp [Leaves, settle, results, Tryz.results106]
  rw [hP]
  exact P5
set_option maxRecDepth 100000 in
set_option maxHeartbeats 1600000 in
theorem right_calls (k : Nat) (g : Nat) (A : Option Addr) (c : Nat) (l : List VIT) (sm : Int) (o : Option VS) (w : World) (hb : w.heap[g]? = some (volO (.slice A l.length c) (.slice none 0 0) (.map none) (.map none) 0 0 sm false)) (hF : ∀ W', KeepBut w W' g none → Kd.C k77 W' A l.length l) (hc : l.length ≤ c) (h : lookF k l = some o) :
    Calls Tryz.prog 45 #[.pointer (some ⟨g, 0, none⟩)] w fun e w' => e = .returned (.bool o.isSome) ∧ Fr g w w' ∧ (∀ s, o = some s → VolR w' g w.heap.size (.slice A l.length c) 1 0 sm true s) := by
  have hnot : ∀ (x : Bool) (w : World), (Op.unary .not (.bool x)).run Tryz.prog w = .ok (.bool (!x)) w := fun _ _ => rfl
  have hmf : ∀ (fn : Fn) (first cap : Array Value) (w : World), (Instr.makeFunc fn first cap).run Tryz.prog w = .ok (.func fn first cap) w := fun _ _ _ _ => rfl
  have HB := ak_ hb
  have HS := ak_ (slowV k g A c l sm o w hb hF hc h)
  clear hb hF hc h
  go_enter Tryz.func45, Tryz.ntmps45
  go_wp2_with (first
    | (go_at_call 79; go_in)
    | (go_at_call 105; refine (loads_one ⟨g, 1, none⟩ 0 _ ((blk_cell HB.out 1).trans rfl)).mono ?_; rintro e w' ⟨rfl, rfl⟩)
    | (go_at_call 106; refine HS.out.mono ?_; rintro e w1 ⟨rfl, hf1, hv1, hb1⟩; have F1 := ak_ hf1; have V1 := ak_ hv1; obtain ⟨va, vi, vu, hg1⟩ := hb1; have q4 : w1.cell? ⟨g, 4, none⟩ = some (.bool o.isSome) := (blk_cell hg1 4).trans rfl; clear hf1 hv1 hg1))
  go_end0
  go_wp2
  go_ret
  exact ⟨rfl, F1.out, V1.out⟩
end Go.Proofs.YtfkofbabeghgkaaGreat.Z
end

section
namespace Go.Proofs.YtfkofbabeghgkaaGreat.Z
attribute [local go_sem ↓] Go.wp_at_zero Go.wp_at_succ
set_option maxRecDepth 100000 in
theorem vopen_calls (A : Option Addr) (c : Nat) (l : List VIT) (w : World) : Calls Tryz.prog 44 #[.slice A l.length c] w fun e w' => ∃ g, e = .returned (.pointer (some ⟨g, 0, none⟩)) ∧ w.heap.size ≤ g ∧ w'.heap[g]? = some (volO (.slice A l.length c) (.slice none 0 0) (.map none) (.map none) 0 0 0 false) ∧ Below w.heap.size w w' := by
 go_enter Tryz.func44, Tryz.ntmps44
 go_wp2_with ((with_reducible refine gate_dst (N := 5) rfl ?_); refine box_event ?hg (N := 5) ?hd (cs := #[.slice A l.length c, .int .u32 0, .int .i32 0, .int .u32 0, .bool false, .slice none 0 0, .map none, .map none]) (t := 151) ?hr ?_; (case hd => rfl); (case hg => rfl); (case hr => first | (go_simp; done) | (go_simp; rfl)); intro g hg w1 hx hb; have X1 := ak_ hx; have B1 := ak_ hb; have GG := ak_ (show w.heap.size ≤ g by rw [hg]; exact Nat.le_refl _); clear hx hb hg)
 go_ret
 exact ⟨g, rfl, GG.out, X1.out, B1.out⟩
def dirs_Check.f (k : Nat) (l0 : List VIT) : Option (Int) := (lookF k l0).bind fun o => match o with | none => some 9 | some s => some 0
theorem dirs_Check.mono : ∀ a0 k, LeO (dirs_Check.f k a0) (dirs_Check.f (k + 1) a0) := fun a0 k => by
 unfold dirs_Check.f
 exact LeO.bind (lookF.mono _ _) (fun _ => LeO.refl _)
set_option maxRecDepth 100000 in
set_option maxHeartbeats 3200000 in
theorem dirs_Check.calls (k : Nat) (A0 : Option Addr) (c0 : Nat) (l0 : List VIT) (r : Int) (w : World) (hr0 : Kd.C k77 w A0 l0.length l0) (hc0 : l0.length ≤ c0) (h : dirs_Check.f k l0 = some r) :
  Calls Tryz.prog 20 #[.slice A0 l0.length c0] w fun e w' => e = .returned (.int .i64 r) ∧ Below w.heap.size w w' := by
 unfold dirs_Check.f at h
 have hnot : ∀ (x : Bool) (w : World), (Op.unary .not (.bool x)).run Tryz.prog w = .ok (.bool (!x)) w := fun _ _ => rfl
 obtain ⟨o, ho, h⟩ := Option.bind_eq_some_iff.mp h
 have HR := ak_ hr0
 have HC := ak_ hc0
 have HO := ak_ ho
 clear hr0 hc0 ho
 cases o with
 | none =>
  obtain rfl := Option.some.inj h
  clear h
  go_enter Tryz.func20, Tryz.ntmps20
  go_wp2_with (first
   | (go_at_call 44; refine (vopen_calls A0 c0 l0 _).mono ?_; rintro e w1 ⟨g, rfl, hg, hb1, hB1⟩; have GG := ak_ hg; have O1 := ak_ hb1; have B1 := ak_ hB1; have Z1 := ak_ (show w.heap.size ≤ w1.heap.size from B1.out.size); clear hg hb1 hB1)
   | (go_at_call 45; refine (right_calls k g A0 c0 l0 0 none _ O1.out (Kd.C_foot_came (Kd.heap_iso _ (Kd.heap_pair Kd.heap_string Kd.heap_string)) HR.out B1.out GG.out) HC.out HO.out).mono ?_; rintro e w2 ⟨rfl, hf2, hv2⟩; have B2 := ak_ (B1.out.trans (hf2.2 w.heap.size GG.out Z1.out)); clear hf2 hv2))
  go_ret
  exact ⟨rfl, B2.out⟩
 | some s =>
  obtain rfl := Option.some.inj h
  clear h
  go_enter Tryz.func20, Tryz.ntmps20
  go_wp2_with (first
   | (go_at_call 44; refine (vopen_calls A0 c0 l0 _).mono ?_; rintro e w1 ⟨g, rfl, hg, hb1, hB1⟩; have GG := ak_ hg; have O1 := ak_ hb1; have B1 := ak_ hB1; have Z1 := ak_ (show w.heap.size ≤ w1.heap.size from B1.out.size); clear hg hb1 hB1)
   | (go_at_call 45; refine (right_calls k g A0 c0 l0 0 (some s) _ O1.out (Kd.C_foot_came (Kd.heap_iso _ (Kd.heap_pair Kd.heap_string Kd.heap_string)) HR.out B1.out GG.out) HC.out HO.out).mono ?_; rintro e w2 ⟨rfl, hf2, hv2⟩; have B2 := ak_ (B1.out.trans (hf2.2 w.heap.size GG.out Z1.out)); have V2 := ak_ (hv2 s rfl); have R2 := ak_ (Kd.C_below HR.out B2.out); clear hf2 hv2))
  go_ret
  exact ⟨rfl, B2.out⟩
end Go.Proofs.YtfkofbabeghgkaaGreat.Z
end

section
namespace Go.Proofs.YtfkofbabeghgkaaGreat.Z
attribute [local go_sem] max2_int min2_int max_two min_two max_three min_three max_four min_four   -- for this text's walks alone
def bits_RotateLeft32.f (a0 : Int) (a1 : Int) : Option (Int) := if 0 ≤ (Go.bits .and .u64 (IntKind.u64.wrap (a1)) 31) then (if 0 ≤ (IntKind.u64.wrap (32 - (Go.bits .and .u64 (IntKind.u64.wrap (a1)) 31))) then (some (Go.bits .or .u32 (shl .u32 a0 (Go.bits .and .u64 (IntKind.u64.wrap (a1)) 31)) (shr .u32 a0 (IntKind.u64.wrap (32 - (Go.bits .and .u64 (IntKind.u64.wrap (a1)) 31)))))) else (none)) else (none)
set_option maxHeartbeats 8000000 in
set_option maxRecDepth 100000 in
theorem bits_RotateLeft32.calls (a0 : Int) (a1 : Int) (r : Int) (w : World) (h : bits_RotateLeft32.f a0 a1 = some r) :
  Calls Tryz.prog 122 #[.int .u32 a0, .int .i64 a1] w fun e w' => e = .returned (.int .u32 r) ∧ Drawn0 w w' := by
 have H : (if 0 ≤ (Go.bits .and .u64 (IntKind.u64.wrap (a1)) 31) then (if 0 ≤ (IntKind.u64.wrap (32 - (Go.bits .and .u64 (IntKind.u64.wrap (a1)) 31))) then (some (Go.bits .or .u32 (shl .u32 a0 (Go.bits .and .u64 (IntKind.u64.wrap (a1)) 31)) (shr .u32 a0 (IntKind.u64.wrap (32 - (Go.bits .and .u64 (IntKind.u64.wrap (a1)) 31)))))) else (none)) else (none)) = some r := h
 clear h
 obtain ⟨ji3, hji3⟩ : ∃ j_ : Int, (Go.bits .and .u64 (IntKind.u64.wrap (a1)) 31) = j_ := ⟨_, rfl⟩
 replace H : (if 0 ≤ (ji3) then (if 0 ≤ (IntKind.u64.wrap (32 - (ji3))) then (some (Go.bits .or .u32 (shl .u32 a0 (ji3)) (shr .u32 a0 (IntKind.u64.wrap (32 - (ji3)))))) else (none)) else (none)) = some r := by first | (rw [hji3] at H; exact H) | (simp only [hji3] at H ⊢; exact H)
 by_cases c4 : 0 ≤ (ji3)
 ·rw [if_pos c4] at H
  have c4b0 := eq_true c4
  have c4b1 : decide (0 ≤ (ji3)) = true := decide_eq_true c4
  clear c4
  obtain ⟨ji5, hji5⟩ : ∃ j_ : Int, (shl .u32 a0 (ji3)) = j_ := ⟨_, rfl⟩
  replace H : (if 0 ≤ (IntKind.u64.wrap (32 - (ji3))) then (some (Go.bits .or .u32 (ji5) (shr .u32 a0 (IntKind.u64.wrap (32 - (ji3)))))) else (none)) = some r := by first | (rw [hji5] at H; exact H) | (simp only [hji5] at H ⊢; exact H)
  have hji5_ : (IntKind.u32.wrap (a0 * 2 ^ min (ji3).toNat 32)) = ji5 := hji5
  have hji5z : (ji3) ≤ 32 → (IntKind.u32.wrap (a0 * 2 ^ (ji3).toNat)) = ji5 := shl_small hji5
  obtain ⟨ji6, hji6⟩ : ∃ j_ : Int, (IntKind.u64.wrap (32 - (ji3))) = j_ := ⟨_, rfl⟩
  replace H : (if 0 ≤ (ji6) then (some (Go.bits .or .u32 (ji5) (shr .u32 a0 (ji6)))) else (none)) = some r := by first | (rw [hji6] at H; exact H) | (simp only [hji6] at H ⊢; exact H)
  by_cases c7 : 0 ≤ (ji6)
  ·rw [if_pos c7] at H
   have c7b0 := eq_true c7
   have c7b1 : decide (0 ≤ (ji6)) = true := decide_eq_true c7
   clear c7
   obtain ⟨ji8, hji8⟩ : ∃ j_ : Int, (shr .u32 a0 (ji6)) = j_ := ⟨_, rfl⟩
   replace H : (some (Go.bits .or .u32 (ji5) (ji8))) = some r := by first | (rw [hji8] at H; exact H) | (simp only [hji8] at H ⊢; exact H)
   have hji8_ : (a0 / 2 ^ min (ji6).toNat 32) = ji8 := hji8
   have hji8z : (ji6) ≤ 32 → (a0 / 2 ^ (ji6).toNat) = ji8 := shr_small hji8
   obtain rfl := Option.some.inj H
   go_enter Tryz.func122, Tryz.ntmps122
   go_wp2
   go_ret
   exact ⟨by first | rfl | (simp; done) | (simp only [← hji3, ← hji5, ← hji6, ← hji8] <;> (first | rfl | simp)) | (simp [*]; done), by repeat (first | exact Drawn0.refl _ | apply Drawn0.step)⟩
  rw [if_neg c7] at H
  exact absurd H (by simp)
 rw [if_neg c4] at H
 exact absurd H (by simp)
def hash_right.f (a0 : Int) (a1 : Int) : Option (Int) := (bits_RotateLeft32.f a0 (wrap64 (-a1))).bind fun t286 => (some t286)
set_option maxHeartbeats 8000000 in
set_option maxRecDepth 100000 in
theorem hash_right.calls (a0 : Int) (a1 : Int) (r : Int) (w : World) (h : hash_right.f a0 a1 = some r) :
  Calls Tryz.prog 100 #[.int .u32 a0, .int .i64 a1] w fun e w' => e = .returned (.int .u32 r) ∧ Drawn0 w w' := by
 have H : ((bits_RotateLeft32.f a0 (wrap64 (-a1))).bind fun t286 => (some t286)) = some r := h
 clear h
 replace H := Option.bind_eq_some_iff.mp H
 obtain ⟨t286, A30, H⟩ := H
 replace H : (some t286) = some r := H
 have A3 := ak_ A30
 clear A30
 obtain rfl := Option.some.inj H
 go_enter Tryz.func100, Tryz.ntmps100
 go_wp2_with (first | ((with_reducible refine gate_callee (f := 122) rfl ?_); refine gl_ (some 8) Tryz.func122 #[.int .u32 a0, .int .i64 (wrap64 (-a1))] ?_; (with_reducible refine (bits_RotateLeft32.calls a0 (wrap64 (-a1)) t286 _ A3.out).mono ?_); rintro e w' ⟨rfl, ⟨nd, rfl⟩⟩; refine ⟨_, rfl, ?_⟩))
 go_ret
 exact ⟨by first | rfl | (simp; done) | (simp [*]; done), by repeat (first | exact Drawn0.refl _ | apply Drawn0.step)⟩
end Go.Proofs.YtfkofbabeghgkaaGreat.Z
end

section
namespace Go.Proofs.YtfkofbabeghgkaaGreat.Z
def rot (x k : Int) : Int := (hash_right.f x k).getD 0
theorem rot_some (x k : Int) (h : decide (0 ≤ (Go.bits .and .u64 (IntKind.u64.wrap (wrap64 (-k))) 31)) && decide (0 ≤ (IntKind.u64.wrap (32 - (Go.bits .and .u64 (IntKind.u64.wrap (wrap64 (-k))) 31)))) = true) : hash_right.f x k = some (rot x k) := by
  simp only [Bool.and_eq_true, decide_eq_true_eq] at h
  unfold rot hash_right.f bits_RotateLeft32.f
  rw [if_pos h.1, if_pos h.2]
  rfl
set_option maxRecDepth 100000 in
theorem rotl_same (a0 a1 r : Int) (w : World) (h : bits_RotateLeft32.f a0 a1 = some r) :
    Calls Tryz.prog 122 #[.int .u32 a0, .int .i64 a1] w fun e w' => e = .returned (.int .u32 r) ∧ w' = w := by
  have H : (if 0 ≤ (Go.bits .and .u64 (IntKind.u64.wrap (a1)) 31) then (if 0 ≤ (IntKind.u64.wrap (32 - (Go.bits .and .u64 (IntKind.u64.wrap (a1)) 31))) then (some (Go.bits .or .u32 (shl .u32 a0 (Go.bits .and .u64 (IntKind.u64.wrap (a1)) 31)) (shr .u32 a0 (IntKind.u64.wrap (32 - (Go.bits .and .u64 (IntKind.u64.wrap (a1)) 31)))))) else (none)) else (none)) = some r := h
  clear h
  obtain ⟨ji3, hji3⟩ : ∃ j_ : Int, (Go.bits .and .u64 (IntKind.u64.wrap (a1)) 31) = j_ := ⟨_, rfl⟩
  simp only [hji3] at H
  by_cases c4 : 0 ≤ (ji3)
  · rw [if_pos c4] at H
    have c4b0 := eq_true c4
    have c4b1 : decide (0 ≤ (ji3)) = true := decide_eq_true c4
    clear c4
    obtain ⟨ji5, hji5⟩ : ∃ j_ : Int, (shl .u32 a0 (ji3)) = j_ := ⟨_, rfl⟩
    simp only [hji5] at H
    have hji5_ : (IntKind.u32.wrap (a0 * 2 ^ min (ji3).toNat 32)) = ji5 := hji5
    have hji5z : (ji3) ≤ 32 → (IntKind.u32.wrap (a0 * 2 ^ (ji3).toNat)) = ji5 := shl_small hji5
    obtain ⟨ji6, hji6⟩ : ∃ j_ : Int, (IntKind.u64.wrap (32 - (ji3))) = j_ := ⟨_, rfl⟩
    simp only [hji6] at H
    by_cases c7 : 0 ≤ (ji6)
    · rw [if_pos c7] at H
      have c7b0 := eq_true c7
      have c7b1 : decide (0 ≤ (ji6)) = true := decide_eq_true c7
      clear c7
      obtain ⟨ji8, hji8⟩ : ∃ j_ : Int, (shr .u32 a0 (ji6)) = j_ := ⟨_, rfl⟩
      simp only [hji8] at H
      have hji8_ : (a0 / 2 ^ min (ji6).toNat 32) = ji8 := hji8
      have hji8z : (ji6) ≤ 32 → (a0 / 2 ^ (ji6).toNat) = ji8 := shr_small hji8
      obtain rfl := Option.some.inj H
      go_enter Tryz.func122, Tryz.ntmps122
      go_wp2
      go_ret
      exact ⟨by first | rfl | (simp; done) | (simp only [← hji3, ← hji5, ← hji6, ← hji8] <;> (first | rfl | simp)) | (simp [*]; done), rfl⟩
    · rw [if_neg c7] at H
      exact absurd H (by simp)
  · rw [if_neg c4] at H
    exact absurd H (by simp)
set_option maxRecDepth 100000 in
theorem right_same (a0 a1 r : Int) (w : World) (h : hash_right.f a0 a1 = some r) :
    Calls Tryz.prog 100 #[.int .u32 a0, .int .i64 a1] w fun e w' => e = .returned (.int .u32 r) ∧ w' = w := by
  have H : ((bits_RotateLeft32.f a0 (wrap64 (-a1))).bind fun t106 => (some t106)) = some r := h
  clear h
  replace H := Option.bind_eq_some_iff.mp H
  obtain ⟨t106, A30, H⟩ := H
  have A3 := ak_ A30
  clear A30
  obtain rfl := Option.some.inj H
  go_enter Tryz.func100, Tryz.ntmps100
  go_wp2_with (go_at_call 122; refine (rotl_same a0 (wrap64 (-a1)) t106 _ A3.out).mono ?_; rintro e w' ⟨rfl, rfl⟩)
  go_ret
  exact ⟨rfl, rfl⟩
def ws (t : TypeId) (l : List Int) : Obj := .cells (l.map (fun x => Value.int .u32 x)).toArray t (0, 0)
theorem ws_cell {w : World} {g : Nat} {t : TypeId} {l : List Int} (h : w.heap[g]? = some (ws t l)) (i : Nat) (hi : i < l.length) : w.cell? ⟨g, i, none⟩ = some (.int .u32 (l.getD i 0)) := by
  rw [blk_cell h, List.getElem?_toArray, List.getElem?_map, List.getD_eq_getElem?_getD, List.getElem?_eq_getElem hi]
  rfl
theorem ws_set {w : World} {g : Nat} {t : TypeId} {l : List Int} (h : w.heap[g]? = some (ws t l)) (i : Nat) (x : Int) : (w.setCell ⟨g, i, none⟩ (.int .u32 x)).heap[g]? = some (ws t (l.set i x)) := by
  rw [blk_set h]
  congr 2
  simp [ws]
theorem Step.ws {g : Nat} {w w1 : World} {t : TypeId} {l : List Int} (h : Step g w w1 (ws t l)) (i : Nat) (x : Int) : Step g w (w1.setCell ⟨g, i, none⟩ (.int .u32 x)) (ws t (l.set i x)) :=
  ⟨ws_set h.1 i x, h.2.1.set_ i _, fun B hB => (h.2.2 B hB).setCell (p := ⟨g, i, none⟩) hB _⟩
theorem ws_info {p : Option Nat} {n : Nat} {l : List Int} (h : p = some n) (hl : l.length = n) : p = some (l.map (fun x => Value.int .u32 x)).toArray.size := by
  rw [h]
  simp [hl]
theorem ws_one (l : List Int) : ((l.map (fun x => Value.int .u32 x)).toArray).all (·.oneCell') = true := by
  simp [Value.oneCell']
def wv (s : ByteArray) (t i x : Int) : Int := Go.bits .or .u32 (IntKind.u32.wrap (x * 256)) (IntKind.u32.wrap (bt s (4 * t + i)))
def winner (s : ByteArray) (t : Int) : Nat → Int → List Int → List Int
  | 0, _, l => l
  | d + 1, i, l => winner s t d (i + 1) (l.set t.toNat (wv s t i (rd l t)))
def wouter (s : ByteArray) : Nat → Int → List Int → List Int
  | 0, _, l => l
  | d + 1, t, l => wouter s d (t + 1) (winner s t 4 0 l)
def wnew (l : List Int) (a b c d : Int) : Int := (rd l a + rd l b + Go.bits .xor .u32 (Go.bits .xor .u32 (rot (rd l c) 7) (rot (rd l c) 18)) (rd l c / 8) + Go.bits .xor .u32 (Go.bits .xor .u32 (rot (rd l d) 17) (rot (rd l d) 19)) (rd l d / 1024)) % 4294967296
def wext : Nat → Int → List Int → List Int
  | 0, _, l => l
  | d + 1, t, l => wext d (t + 1) (l.set t.toNat (wnew l (t - 16) (t - 7) (t - 15) (t - 2)))
def wordsF (s : ByteArray) : List Int := wext 48 16 (wouter s 16 0 (List.replicate 64 0))
theorem winner_len (s : ByteArray) (t : Int) : ∀ d i l, (winner s t d i l).length = l.length
  | 0, _, _ => rfl
  | d + 1, i, l => by rw [winner, winner_len s t d]; simp
theorem ws_at {w : World} {g : Nat} {t : TypeId} {l : List Int} (h : w.heap[g]? = some (ws t l)) (i : Int) (h0 : 0 ≤ i) (hi : i < l.length) : w.cell? ⟨g, i.toNat, none⟩ = some (.int .u32 (rd l i)) := ws_cell h i.toNat (by omega)
set_option maxRecDepth 100000 in
set_option maxHeartbeats 3200000 in
theorem words_calls (s : ByteArray) (hs : s.size = 64) (w : World) :
    Calls Tryz.prog 99 #[.string s] w fun e w' => e = .returned (.agg ((wordsF s).map (fun x => Value.int .u32 x)).toArray) ∧ Below w.heap.size w w' := by
  have HA := ak_ hs
  clear hs
  go_enter Tryz.func99, Tryz.ntmps99
  go_wp2_with ((with_reducible refine gate_dst (N := 2) rfl ?_); refine box_event ?hg (N := 2) ?hd (cs := ((List.replicate 64 (0 : Int)).map (fun x => Value.int .u32 x)).toArray) (t := 170) ?hr ?_; (case hd => rfl); (case hg => rfl); (case hr => first | (go_simp; done) | (go_simp; rfl)); intro g hg w1 hx hb; have BX := ak_ (show w1.heap[g]? = some (ws 170 (List.replicate 64 0)) from hx); have BB := ak_ hb; have GG := ak_ (show w.heap.size ≤ g by omega); clear hx hb hg)
  go_loopw [8] (fun i wr => ∃ (x : Int) (l : List Int), i = .int .i64 x ∧ Aside0 (0 ≤ x ∧ x ≤ 16) ∧ Aside0 (Below w.heap.size w wr ∧ wr.heap[g]? = some (ws 170 l) ∧ l.length = 64) ∧ Aside0 (wouter s (16 - x.toNat) x l = wouter s 16 0 (List.replicate 64 0))) (fun i _ => 16 - (intOf i).toNat)
  case atStart => exact ⟨0, _, rfl, ⟨by omega⟩, ⟨BB.out, BX.out, by simp⟩, ⟨rfl⟩⟩
  case round =>
    obtain ⟨x, l, rfl, HX, HS, HF⟩ := hrel
    obtain ⟨hx0, hx1⟩ := HX.out
    have hsz := HA.out
    by_cases hlt : x < 16
    · have hlt2 : decide (x < 16) = true := decide_eq_true hlt
      have L := ak_ hlt
      clear hlt hsz hx0 hx1 BX BB
      go_wp2
      go_loopw [11] (fun i wr => ∃ (y : Int) (l' : List Int), i = .int .i64 y ∧ Aside0 (0 ≤ y ∧ y ≤ 4) ∧ Aside0 (Below w.heap.size w wr ∧ wr.heap[g]? = some (ws 170 l') ∧ l'.length = 64) ∧ Aside0 (winner s x (4 - y.toNat) y l' = winner s x 4 0 l)) (fun i _ => 4 - (intOf i).toNat)
      case atStart => exact ⟨0, _, rfl, ⟨by omega⟩, HS, ⟨rfl⟩⟩
      case round =>
        obtain ⟨y, l', rfl, HY, HT, HG⟩ := hrel
        obtain ⟨hy0, hy1⟩ := HY.out
        have hx := HX.out
        have hsz := HA.out
        have hl := L.out
        have hll := HT.out.2.2
        by_cases hly : y < 4
        · have hly2 : decide (y < 4) = true := decide_eq_true hly
          have q0 : ((0 : Int) ≤ x) = True := eq_true (by omega)
          have q1 : (x < (64 : Int)) = True := eq_true (by omega)
          have e0 : IntKind.i64.wrap (4 * x) = 4 * x := by rw [IntKind.wrap_i64]; omega
          have e1 : IntKind.i64.wrap (4 * x + y) = 4 * x + y := by rw [IntKind.wrap_i64]; omega
          have ew : wrap64 (y + 1) = y + 1 := by unfold wrap64; omega
          have q2 : ((0 : Int) ≤ 4 * x + y) = True := eq_true (by omega)
          have q3 : (4 * x + y < (s.size : Int)) = True := eq_true (by omega)
          have hbt := bt_at s (4 * x + y)
          have hF : winner s x (4 - (y + 1).toNat) (y + 1) (l'.set x.toNat (wv s x y (rd l' x))) = winner s x 4 0 l := by
            have h := HG.out
            rw [show 4 - y.toNat = (4 - (y + 1).toNat) + 1 by omega, winner] at h
            exact h
          have HF' := ak_ hF
          have EW := ak_ ew
          have LY := ak_ hly
          have HD := ak_ (show Below w.heap.size w wr.drew ∧ wr.drew.heap[g]? = some (ws 170 l') ∧ l'.length = 64 from ⟨below_drew1 HT.out.1, blk_drew HT.out.2.1, HT.out.2.2⟩)
          have k0 := ws_at HT.out.2.1 x (by omega) (by omega)
          clear hF hx hsz hl hll hly ew hy0 hy1
          go_wp2
          go_still_tail 14, (by kernel_rfl)
          change wpList _ _ _ _ _ wr.drew
          obtain ⟨wd, hwd⟩ : ∃ wd, wd = wr.drew := ⟨_, rfl⟩
          rw [← hwd] at HD ⊢
          have k1 := ws_at HD.out.2.1 x (of_eq_true q0) (by have := HD.out.2.2; have := of_eq_true q1; omega)
          have y1 : wd.frozen? ⟨g, x.toNat, none⟩ = false := blk_frozen HD.out.2.1 _
          clear hwd k0
          go_wp2
          have hl := LY.out
          have hy := HY.out
          go_roundw
          case rel => exact ⟨y + 1, _, by rw [EW.out], ⟨by omega⟩, ⟨HD.out.1.setCell (p := ⟨g, x.toNat, none⟩) GG.out _, ws_set HD.out.2.1 _ _, by rw [List.length_set]; exact HD.out.2.2⟩, HF'⟩
          case measure =>
            simp [EW.out, intOf]
            omega
        · have hge : decide (y < 4) = false := decide_eq_false hly
          have hF := HG.out
          rw [show 4 - y.toNat = 0 by omega, winner] at hF
          have hF2 := HF.out
          rw [show 16 - x.toNat = (16 - (x + 1).toNat) + 1 by omega, wouter, ← hF] at hF2
          have HF' := ak_ hF2
          have ew : wrap64 (x + 1) = x + 1 := by unfold wrap64; omega
          have EW := ak_ ew
          clear hx hsz hl hll hly hy0 hy1 hF hF2 ew
          go_wp2
          have hl := L.out
          have hx := HX.out
          go_roundw
          case rel => exact ⟨x + 1, _, by rw [EW.out], ⟨by omega⟩, HT, HF'⟩
          case measure =>
            simp [EW.out, intOf]
            omega
    · have hge : decide (x < 16) = false := decide_eq_false hlt
      have hF := HF.out
      rw [show 16 - x.toNat = 0 by omega, wouter] at hF
      obtain ⟨L0, hL0⟩ : ∃ L0, L0 = wouter s 16 0 (List.replicate 64 0) := ⟨_, rfl⟩
      rw [← hL0] at hF
      have HL0 := ak_ hL0
      subst hF
      clear hx0 hx1 hlt hsz hL0 HF BX BB
      go_wp2
      go_loopw [5] (fun i wr => ∃ (y : Int) (l' : List Int), i = .int .i64 y ∧ Aside0 (16 ≤ y ∧ y ≤ 64) ∧ Aside0 (Below w.heap.size w wr ∧ wr.heap[g]? = some (ws 170 l') ∧ l'.length = 64) ∧ Aside0 (wext (64 - y.toNat) y l' = wext 48 16 l)) (fun i _ => 64 - (intOf i).toNat)
      case atStart => exact ⟨16, _, rfl, ⟨by omega⟩, HS, ⟨rfl⟩⟩
      case round =>
        obtain ⟨y, l', rfl, HY, HT, HG⟩ := hrel
        obtain ⟨hy0, hy1⟩ := HY.out
        have hll := HT.out.2.2
        by_cases hly : y < 64
        · have hly2 : decide (y < 64) = true := decide_eq_true hly
          have q0 : ((0 : Int) ≤ y) = True := eq_true (by omega)
          have q1 : (y < (64 : Int)) = True := eq_true (by omega)
          obtain ⟨j15, hj15⟩ : ∃ j, j = y - 15 := ⟨_, rfl⟩
          have e15 : IntKind.i64.wrap (y - 15) = j15 := by rw [IntKind.wrap_i64]; omega
          have a15 : ((0 : Int) ≤ j15) = True := eq_true (by omega)
          have b15 : (j15 < (64 : Int)) = True := eq_true (by omega)
          have k15 := ws_at HT.out.2.1 j15 (by omega) (by omega)
          obtain ⟨j2, hj2⟩ : ∃ j, j = y - 2 := ⟨_, rfl⟩
          have e2 : IntKind.i64.wrap (y - 2) = j2 := by rw [IntKind.wrap_i64]; omega
          have a2 : ((0 : Int) ≤ j2) = True := eq_true (by omega)
          have b2 : (j2 < (64 : Int)) = True := eq_true (by omega)
          have k2 := ws_at HT.out.2.1 j2 (by omega) (by omega)
          obtain ⟨j16, hj16⟩ : ∃ j, j = y - 16 := ⟨_, rfl⟩
          have e16 : IntKind.i64.wrap (y - 16) = j16 := by rw [IntKind.wrap_i64]; omega
          have a16 : ((0 : Int) ≤ j16) = True := eq_true (by omega)
          have b16 : (j16 < (64 : Int)) = True := eq_true (by omega)
          have k16 := ws_at HT.out.2.1 j16 (by omega) (by omega)
          obtain ⟨j7, hj7⟩ : ∃ j, j = y - 7 := ⟨_, rfl⟩
          have e7 : IntKind.i64.wrap (y - 7) = j7 := by rw [IntKind.wrap_i64]; omega
          have a7 : ((0 : Int) ≤ j7) = True := eq_true (by omega)
          have b7 : (j7 < (64 : Int)) = True := eq_true (by omega)
          have k7 := ws_at HT.out.2.1 j7 (by omega) (by omega)
          have ew : wrap64 (y + 1) = y + 1 := by unfold wrap64; omega
          have EW := ak_ ew
          have LY := ak_ hly
          have hF := HG.out
          rw [show 64 - y.toNat = (64 - (y + 1).toNat) + 1 by omega, wext, ← hj16, ← hj7, ← hj15, ← hj2] at hF
          have HF' := ak_ hF
          clear hy0 hy1 hll hly ew hj16 hj7 hj15 hj2 hF
          go_wp2
          go_still (by kernel_rfl)
          change Exit.then _ _ _ _ wr.drew
          have HD := ak_ (show Below w.heap.size w wr.drew ∧ wr.drew.heap[g]? = some (ws 170 l') ∧ l'.length = 64 from ⟨below_drew1 HT.out.1, blk_drew HT.out.2.1, HT.out.2.2⟩)
          obtain ⟨wd, hwd⟩ : ∃ wd, wd = wr.drew := ⟨_, rfl⟩
          rw [← hwd] at HD ⊢
          clear hwd k15 k2 k16 k7
          have k16 := ws_at HD.out.2.1 j16 (of_eq_true a16) (by have := HD.out.2.2; have := of_eq_true b16; omega)
          have k7 := ws_at HD.out.2.1 j7 (of_eq_true a7) (by have := HD.out.2.2; have := of_eq_true b7; omega)
          go_wp2
          go_still_tail 29, (by kernel_rfl)
          still_call (right_same _ 7 _ _ (rot_some _ 7 (by kernel_rfl)))
          repeat still_step
          still_call (right_same _ 18 _ _ (rot_some _ 18 (by kernel_rfl)))
          repeat still_step
          still_call (right_same _ 17 _ _ (rot_some _ 17 (by kernel_rfl)))
          repeat still_step
          still_call (right_same _ 19 _ _ (rot_some _ 19 (by kernel_rfl)))
          repeat still_step
          refine wpStill_nil ?_
          change wpList _ _ _ _ _ wd.drew
          have HE := ak_ (show Below w.heap.size w wd.drew ∧ wd.drew.heap[g]? = some (ws 170 l') ∧ l'.length = 64 from ⟨below_drew1 HD.out.1, blk_drew HD.out.2.1, HD.out.2.2⟩)
          obtain ⟨we, hwe⟩ : ∃ we, we = wd.drew := ⟨_, rfl⟩
          rw [← hwe] at HE ⊢
          clear hwe k16 k7
          have k1 := ws_at HE.out.2.1 y (of_eq_true q0) (by have := HE.out.2.2; have := of_eq_true q1; omega)
          have y1 : we.frozen? ⟨g, y.toNat, none⟩ = false := blk_frozen HE.out.2.1 _
          go_wp2
          have hl := LY.out
          have hy := HY.out
          go_roundw
          case rel => exact ⟨y + 1, _, by rw [EW.out], ⟨by omega⟩, ⟨HE.out.1.setCell (p := ⟨g, y.toNat, none⟩) GG.out _, ws_set HE.out.2.1 _ _, by rw [List.length_set]; exact HE.out.2.2⟩, HF'⟩
          case measure =>
            simp [EW.out, intOf]
            omega
        · have hge : decide (y < 64) = false := decide_eq_false hly
          have hF := HG.out
          rw [show 64 - y.toNat = 0 by omega, wext] at hF
          have HF' := ak_ hF
          have HI := ak_ (ws_info (l := l') (by kernel_rfl : (Tryz.prog.info? 170).map (·.size) = some 64) hll)
          clear hF hy0 hy1 hll hly
          go_wp2_with (first
            | ((with_reducible refine gate_dst (N := 71) rfl ?_); refine wpList_load_row rfl 170 _ rfl g rfl 170 _ (0, 0) _ HT.out.2.1 Tryz.underlying170 rfl HI.out ?_)
            | (refine wpList_store_row rfl 170 _ _ rfl g _ rfl rfl 170 _ HT.out.2.1 HI.out rfl (ws_one l') ?_))
          (try simp only [Exit.inBlock, Exit.then])
          refine bodyPost_ret (results_cell_row rfl _ _ g 170 _ (0, 0) _ rfl (setRow_heap _ g _ _ 170 (0, 0) HT.out.2.1) Tryz.underlying170 rfl HI.out) rfl ?_
          exact ⟨by rw [HF'.out, HL0.out]; rfl, below_setRow HT.out.1 GG.out _⟩
end Go.Proofs.YtfkofbabeghgkaaGreat.Z
end
