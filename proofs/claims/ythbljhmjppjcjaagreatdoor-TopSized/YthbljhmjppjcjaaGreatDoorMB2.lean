/- This session's own texts, laid together (a part that several claims share). -/
import Derived.Test.YthbljhmjppjcjaaGreatDoorMB1
import Derived.Test.YthbljhmjppjcjaaGreatDoorProg
import Derived.Laws.Strings
section
namespace Go.Proofs.YthbljhmjppjcjaaGreatDoor.Z
open Go.RowKit Go.Proofs.YthbljhmjppjcjaaGreatDoorW.PrintWords Go.Proofs.YthbljhmjppjcjaaGreatDoorW.PrintLast Go.Proofs.YthbljhmjppjcjaaGreatDoorW.PrintMore
attribute [local go_sem] max2_int min2_int max_two min_two max_three min_three max_four min_four   -- for this text's walks alone
set_option linter.unusedVariables false
set_option linter.unusedSimpArgs false
def inode_Parse.l0 : Nat → ByteArray → Int → Int → Int → Int → Int → Int → Int → Int → Int → Int → Int → ByteArray → Int → Option (Int × Int × ByteArray × Int × Int)
 | 0, _, _, _, _, _, _, _, _, _, _, _, _, _, _ => none
 | k + 1, x0, x6, x161000, x161001, x161002, x161003, x161004, x161005, x161006, x161007, x162000, x162001, x162002, x162003 => if x6 < 5 then ((inode_letters_letter.f x161000 x161001 x161002 x161003 x161004 x161005 x161006 x161007 x6).bind fun bt162 => (if 0 < (x0.size : Int) then (if bt162.1 = (bt x0 0) then (inode_Parse.l0 k x0 ((x6 + 1) % 256) bt162.2.1 bt162.2.2.1 bt162.2.2.2.1 bt162.2.2.2.2.1 bt162.2.2.2.2.2.1 bt162.2.2.2.2.2.2.1 bt162.2.2.2.2.2.2.2.1 bt162.2.2.2.2.2.2.2.2 x6 x162001 x162002 x162003) else (inode_Parse.l0 k x0 ((x6 + 1) % 256) bt162.2.1 bt162.2.2.1 bt162.2.2.2.1 bt162.2.2.2.2.1 bt162.2.2.2.2.2.1 bt162.2.2.2.2.2.2.1 bt162.2.2.2.2.2.2.2.1 bt162.2.2.2.2.2.2.2.2 x162000 x162001 x162002 x162003)) else (none))) else (if 1 ≤ (x0.size : Int) then ((inode_taker_number.f k (x0.extract 1 x0.size) false 4).bind fun bt172 => (if x162000 = 3 then ((inode_taker_number.f k bt172.2.1 bt172.2.2 4).bind fun bt175 => ((inode_Key.f k x162000 ((bt172.1) % 4294967296) x162002 ((bt175.1) % 4294967296)).bind fun bt178 => (if bt175.2.2 = true then (some (0, 0, (⟨#[]⟩ : ByteArray), 0, 4)) else (if bt178.2 = 0 then (if bt178.1.toList = x0.toList then (some (x162000, (bt172.1) % 4294967296, x162002, (bt175.1) % 4294967296, 0)) else (some (0, 0, (⟨#[]⟩ : ByteArray), 0, 4))) else (some (0, 0, (⟨#[]⟩ : ByteArray), 0, 4)))))) else ((inode_Key.f k x162000 ((bt172.1) % 4294967296) bt172.2.1 x162003).bind fun bt180 => (if bt172.2.2 = true then (some (0, 0, (⟨#[]⟩ : ByteArray), 0, 4)) else (if bt180.2 = 0 then (if bt180.1.toList = x0.toList then (some (x162000, (bt172.1) % 4294967296, bt172.2.1, x162003, 0)) else (some (0, 0, (⟨#[]⟩ : ByteArray), 0, 4))) else (some (0, 0, (⟨#[]⟩ : ByteArray), 0, 4))))))) else (none))
def inode_Parse.f (k : Nat) (a0 : ByteArray) : Option (Int × Int × ByteArray × Int × Int) := if (a0.size : Int) < 5 then (some (0, 0, (⟨#[]⟩ : ByteArray), 0, 4)) else (inode_Parse.l0 k a0 1 0 0 0 0 0 0 0 0 0 0 (⟨#[]⟩ : ByteArray) 0)
theorem inode_Parse.mono_l : ∀ k, (∀ y0 y1 y2 y3 y4 y5 y6 y7 y8 y9 y10 y11 y12 y13, LeO (inode_Parse.l0 k y0 y1 y2 y3 y4 y5 y6 y7 y8 y9 y10 y11 y12 y13) (inode_Parse.l0 (k + 1) y0 y1 y2 y3 y4 y5 y6 y7 y8 y9 y10 y11 y12 y13))
 | 0 => fun _ _ _ _ _ _ _ _ _ _ _ _ _ _ r h => by simp [inode_Parse.l0] at h
 | k + 1 => by
  have ih0 := inode_Parse.mono_l k
  ·intro y0 y1 y2 y3 y4 y5 y6 y7 y8 y9 y10 y11 y12 y13
   unfold inode_Parse.l0
   repeat' first
   | (with_reducible exact ih0 _ _ _ _ _ _ _ _ _ _ _ _ _ _)
   | (with_reducible exact inode_Key.mono _ _ _ _ _)
   | (with_reducible exact inode_taker_number.mono _ _ _ _)
   | (with_reducible exact LeO.refl _)
   | (with_reducible exact LeO.none _)
   | (with_reducible refine LeO.ite ?_ ?_)
   | (with_reducible refine LeO.bind ?_ (fun _ => ?_))
   | exact ih0 _ _ _ _ _ _ _ _ _ _ _ _ _ _
   | exact inode_Key.mono _ _ _ _ _
   | exact inode_taker_number.mono _ _ _ _
   | exact LeO.none _
   | refine LeO.ite ?_ ?_
   | refine LeO.bind ?_ (fun _ => ?_)
theorem inode_Parse.mono : ∀ a0 k, LeO (inode_Parse.f k a0) (inode_Parse.f (k + 1) a0) := by
 intro a0 k
 have ih0 := inode_Parse.mono_l k
 unfold inode_Parse.f
 repeat' first
   | (with_reducible exact ih0 _ _ _ _ _ _ _ _ _ _ _ _ _ _)
   | (with_reducible exact inode_Key.mono _ _ _ _ _)
   | (with_reducible exact inode_taker_number.mono _ _ _ _)
   | (with_reducible exact LeO.refl _)
   | (with_reducible exact LeO.none _)
   | (with_reducible refine LeO.ite ?_ ?_)
   | (with_reducible refine LeO.bind ?_ (fun _ => ?_))
   | exact ih0 _ _ _ _ _ _ _ _ _ _ _ _ _ _
   | exact inode_Key.mono _ _ _ _ _
   | exact inode_taker_number.mono _ _ _ _
   | exact LeO.none _
   | refine LeO.ite ?_ ?_
   | refine LeO.bind ?_ (fun _ => ?_)
set_option maxHeartbeats 8000000 in
set_option maxRecDepth 100000 in
theorem inode_Parse.calls (k : Nat) (a0 : ByteArray) (r1 : Int) (r2 : Int) (r3 : ByteArray) (r4 : Int) (r5 : Int) (w : World) (h : inode_Parse.f k a0 = some (r1, r2, r3, r4, r5)) :
  Calls Tryz.prog 44 #[.string a0] w fun e w' => e = .returned (.tuple #[.agg #[.int .u8 r1, .int .u32 r2, .string r3, .int .u32 r4], .int .i64 r5]) ∧ Below w.heap.size w w' := by
 have hu37 := Tryz.underlying37
 have hu128 := Tryz.underlying128
 have hu156 := Tryz.underlying156
 have HB := Aside0.mk (Below.refl w.heap.size w)
 have H : (if (a0.size : Int) < 5 then (some (0, 0, (⟨#[]⟩ : ByteArray), 0, 4)) else (inode_Parse.l0 k a0 1 0 0 0 0 0 0 0 0 0 0 (⟨#[]⟩ : ByteArray) 0)) = some (r1, r2, r3, r4, r5) := h
 clear h
 by_cases c2 : (a0.size : Int) < 5
 ·rw [if_pos c2] at H
  have c2b0 : decide ((a0.size : Int) < 5) = true := decide_eq_true c2
  have c2b1 : decide (a0.size < 5) = true := decide_eq_true (by omega)
  clear c2
  simp only [Option.some.injEq, Prod.mk.injEq] at H
  obtain ⟨rfl, rfl, rfl, rfl, rfl⟩ := H
  go_enter Tryz.func44, Tryz.ntmps44
  go_wp2_with (first | ((with_reducible refine gate_dst (N := 2) rfl ?_); refine bx_ (N := 2) (cs := #[.int .u8 0, .int .u32 0, .string (⟨#[]⟩ : ByteArray), .int .u32 0]) (t := 37) ?_; intro gb159 hg w3 hbox hb; have BK159 := Aside0.mk (hbox); have GW159 := ge_ hg; have GE159 := ge_ hg; replace HB := hb_ hb; clear hb hbox hg; obtain ⟨hcz4_0, hcz4_1, hcz4_2, hcz4_3⟩ := cl4_ BK159; obtain ⟨hfz4_0, hfz4_1, hfz4_2, hfz4_3⟩ := fz4_ BK159))
  refine bodyPost_ret (results_ct rfl _ _ gb159 37 #[.int .u8 0, .int .u32 0, .string (⟨#[]⟩ : ByteArray), .int .u32 0] (0, 0) _ rfl (bs_) Tryz.underlying37 rfl (by kernel_rfl)) rfl ?_
  exact ⟨by first | rfl | (simp [errW_none, errW_some] <;> rfl) | (simp [*, errW_none, errW_some] <;> rfl), bel_⟩
 rw [if_neg c2] at H
 have c2b0 : decide ((a0.size : Int) < 5) = false := decide_eq_false c2
 have c2b1 : decide (a0.size < 5) = false := decide_eq_false (by omega)
 clear c2
 have H' := Aside0.mk H
 clear H
 go_enter Tryz.func44, Tryz.ntmps44
 go_wp2_with (first | ((with_reducible refine gate_dst (N := 2) rfl ?_); refine bx_ (N := 2) (cs := #[.int .u8 0, .int .u32 0, .string (⟨#[]⟩ : ByteArray), .int .u32 0]) (t := 37) ?_; intro gb159 hg w5 hbox hb; have BK159 := Aside0.mk (hbox); have GW159 := ge_ hg; have GE159 := ge_ hg; replace HB := hb_ hb; clear hb hbox hg) | ((with_reducible refine gate_dst (N := 4) rfl ?_); refine bx_ (N := 4) (cs := #[.int .u32 0, .int .i32 0, .int .u32 0, .int .u8 0, .int .u8 0, .int .u8 0, .int .u8 0, .int .u8 0]) (t := 128) ?_; intro gb160 hg w6 hbox hb; have BK160 := Aside0.mk (hbox); have GW160 := ge_ hg; have GE160 := ge_ hg; have NB159_160 := nl_ BK159 hg; have NB160_159 := ng_ BK159 hg; replace BK159 := kb_ BK159 hb; replace HB := hb_ hb; clear hb hbox hg) | ((with_reducible refine gate_dst (N := 5) rfl ?_); refine bx_ (N := 5) (cs := #[.int .u8 0, .int .u32 0, .string (⟨#[]⟩ : ByteArray), .int .u32 0]) (t := 37) ?_; intro gb161 hg w7 hbox hb; have BK161 := Aside0.mk (hbox); have GW161 := ge_ hg; have GE161 := ge_ hg; have NB159_161 := nl_ BK159 hg; have NB161_159 := ng_ BK159 hg; have NB160_161 := nl_ BK160 hg; have NB161_160 := ng_ BK160 hg; replace BK159 := kb_ BK159 hb; replace BK160 := kb_ BK160 hb; replace HB := hb_ hb; clear hb hbox hg; have hnb8 := NB161_159.out; have hnc8 := NB159_161.out; have hnb9 := NB161_160.out; have hnc9 := NB160_161.out; obtain ⟨hcz10_0, hcz10_1, hcz10_2, hcz10_3⟩ := cl4_ BK161; obtain ⟨hfz10_0, hfz10_1, hfz10_2, hfz10_3⟩ := fz4_ BK161))
 go_loopg [6] k (fun kq v6 w' => ∃ (x6_1 : Int) (x161000_1 : Int) (x161001_1 : Int) (x161002_1 : Int) (x161003_1 : Int) (x161004_1 : Int) (x161005_1 : Int) (x161006_1 : Int) (x161007_1 : Int) (x162000_1 : Int), v6 = .int .u8 x6_1 ∧ Aside0 (inode_Parse.l0 kq a0 x6_1 x161000_1 x161001_1 x161002_1 x161003_1 x161004_1 x161005_1 x161006_1 x161007_1 x162000_1 0 (⟨#[]⟩ : ByteArray) 0 = some (r1, r2, r3, r4, r5)) ∧ Aside0 (kq ≤ k) ∧ Aside0 (w'.heap[gb159]? = some (.cells #[.int .u8 0, .int .u32 0, .string (⟨#[]⟩ : ByteArray), .int .u32 0] 37 (0, 0))) ∧ Aside0 (w'.heap[gb160]? = some (.cells #[.int .u32 x161000_1, .int .i32 x161001_1, .int .u32 x161002_1, .int .u8 x161003_1, .int .u8 x161004_1, .int .u8 x161005_1, .int .u8 x161006_1, .int .u8 x161007_1] 128 (0, 0))) ∧ Aside0 (w'.heap[gb161]? = some (.cells #[.int .u8 x162000_1, .int .u32 0, .string (⟨#[]⟩ : ByteArray), .int .u32 0] 37 (0, 0))) ∧ Aside0 (Below w.heap.size w w'))
 case atStart => exact ⟨(1), (0), (0), (0), (0), (0), (0), (0), (0), (0), (by first | rfl | (simp; done) | (simp [*]; done)), H', ⟨Nat.le_refl _⟩, ⟨bs_⟩, ⟨bs_⟩, ⟨bs_⟩, ⟨bel_⟩⟩
 case round =>
  clear H'
  try clear c2
  try clear c2b0
  try clear c2b1
  try clear p2
  try clear c4
  try clear c8
  try clear c9
  try clear hcz10_0
  try clear hcz10_1
  try clear hcz10_2
  try clear hcz10_3
  try clear hcz4_0
  try clear hcz4_1
  try clear hcz4_2
  try clear hcz4_3
  try clear hfz10_0
  try clear hfz10_1
  try clear hfz10_2
  try clear hfz10_3
  try clear hfz4_0
  try clear hfz4_1
  try clear hfz4_2
  try clear hfz4_3
  obtain ⟨x6_1, x161000_1, x161001_1, x161002_1, x161003_1, x161004_1, x161005_1, x161006_1, x161007_1, x162000_1, rfl, HA, HK1, BK159, BK160, BK161, HB⟩ := hrel
  cases gk with
  | zero => exact absurd HA.out (by simp [inode_Parse.l0])
  | succ k1 =>
   have H := HA.out
   clear HA
   simp only [inode_Parse.l0] at H
   by_cases c11 : x6_1 < 5
   ·rw [if_pos c11] at H
    have c11b0 : decide (x6_1 < 5) = true := decide_eq_true c11
    clear c11
    replace H := Option.bind_eq_some_iff.mp H
    obtain ⟨⟨t162, t163, t164, t165, t166, t167, t168, t169, t170⟩, A120, H⟩ := H
    replace H : (if 0 < (a0.size : Int) then (if t162 = (bt a0 0) then (inode_Parse.l0 k1 a0 ((x6_1 + 1) % 256) t163 t164 t165 t166 t167 t168 t169 t170 x6_1 0 (⟨#[]⟩ : ByteArray) 0) else (inode_Parse.l0 k1 a0 ((x6_1 + 1) % 256) t163 t164 t165 t166 t167 t168 t169 t170 x162000_1 0 (⟨#[]⟩ : ByteArray) 0)) else (none)) = some (r1, r2, r3, r4, r5) := H
    have A12 := Aside0.mk A120
    clear A120
    by_cases c13 : 0 < (a0.size : Int)
    ·rw [if_pos c13] at H
     have c13b0 : decide (0 < (a0.size : Int)) = true := decide_eq_true c13
     have c13b1 : decide (0 < a0.size) = true := decide_eq_true (by omega)
     clear c13
     by_cases c15 : t162 = (bt a0 0)
     ·rw [if_pos c15] at H
      have c15b0 : (t162 == (bt a0 0)) = true := beq_iff_eq.mpr c15
      have c15b1 : (t162 != (bt a0 0)) = false := bne_eq_false_iff_eq.mpr c15
      clear c15
      have H' := Aside0.mk H
      clear H
      try go_wp2
      replace BK159 := Aside0.mk (blk_drew BK159.out)
      replace BK160 := Aside0.mk (blk_drew BK160.out)
      replace BK161 := Aside0.mk (blk_drew BK161.out)
      replace HB := Aside0.mk (below_drew1 HB.out)
      have p14 : 0 ≤ (0 : Int) := (by omega)
      have q14 : 0 < a0.size := (by have : (0 : Int) < (a0.size : Int) := of_decide_eq_true (by first | (with_reducible assumption) | assumption); omega)
      have hx14 : ∀ h : 0 < a0.size, ((a0[0]'h).toNat : Int) = bt a0 0 := bt_at a0 0
      clear p14
      have qi14 : (0 < (a0.size : Int)) = True := eq_true (of_decide_eq_true (by first | (with_reducible assumption) | assumption))
      replace q14 := eq_true q14
      refine start_ (n := 5) (S := fun w' => True) (ds := []) #[false, false, false, false, false] (by kernel_rfl) rfl rfl trivial (fun hHeld => ?_)
      generalize wr.drew = w16 at BK159 BK160 BK161 HB hHeld ⊢
      refine pu_ 0 19 ?_
      refine pu_ 2 21 ?_
      refine take_ (i := 3) (N := some 22) (v := ?_) (a' := ?_) #[true, false, true, true, false] rfl rfl (by kernel_rfl) (fun _ _ _ h => h) (Or.inl ⟨by rfl, ?_⟩) hHeld ?_ ?_
      rotate_left
      ·intro w' _
       go_simp
       with_reducible rfl
      rotate_left
      ·simp only [Act.put, List.setIfInBounds_toArray, List.set_cons_zero, List.set_cons_succ, i64_w, i32_w]
       rfl
      refine on_ 1 20 (fun K hK => ?_)
      refine goes_ Tryz.func50 (by kernel_rfl) rfl #[.pointer (some ⟨gb160, 0, none⟩), .int .u8 x6_1] (by rfl) rfl rfl (by (try simp only [List.map_toArray, List.map_cons, List.map_nil]); first | done | rfl | (simp only [List.length_drop, List.length_take]; rfl)) ?_
      with_reducible refine (inode_letters_letter.calls gb160 x161000_1 x161001_1 x161002_1 x161003_1 x161004_1 x161005_1 x161006_1 x161007_1 x6_1 t162 t163 t164 t165 t166 t167 t168 t169 t170 w _ ?side1 ?side2 A12.out).mono ?_
      (case side1 => exact ⟨(bk_ BK160), GE160.out⟩)
      (case side2 => repeat (first | (with_reducible first | exact HB.out | apply below_alloc | apply pw_below_drewN | apply below_drew1 | refine below_set ?_ GE159.out | refine below_set ?_ GE160.out | refine below_set ?_ GE161.out) | exact HB.out))
      rintro e w17 ⟨rfl, hi, hb, hk⟩
      refine ⟨_, rfl, ?_⟩
      replace BK159 := Aside0.mk (KeepBut.blk hk (g' := gb159) (o := .cells #[.int .u8 0, .int .u32 0, .string (⟨#[]⟩ : ByteArray), .int .u32 0] 37 (0, 0)) (bk_ BK159) NB159_160.out (by simp))
      replace BK161 := Aside0.mk (KeepBut.blk hk (g' := gb161) (o := .cells #[.int .u8 x162000_1, .int .u32 0, .string (⟨#[]⟩ : ByteArray), .int .u32 0] 37 (0, 0)) (bk_ BK161) NB161_160.out (by simp))
      replace HB := Aside0.mk (hb)
      replace BK160 := Aside0.mk (hi.1)
      (try clear hb)
      (try clear hb2)
      (try clear hk)
      (try clear hi)
      refine hK.out _ _ trivial (fun hHeld => ?_)
      clear hK K
      refine nm_ 20 ?_
      refine pu_ 4 23 ?_
      refine done_ (by kernel_rfl) ?_
      have hnb18 := NB161_159.out
      have hnc18 := NB159_161.out
      have hnb19 := NB161_160.out
      have hnc19 := NB160_161.out
      obtain ⟨hcz20_0, hcz20_1, hcz20_2, hcz20_3⟩ := cl4_ BK161
      obtain ⟨hfz20_0, hfz20_1, hfz20_2, hfz20_3⟩ := fz4_ BK161
      try go_wp2
      go_roundg k1
      case measure => have := HK1.out; omega
      case rel => exact ⟨((x6_1 + 1) % 256), (t163), (t164), (t165), (t166), (t167), (t168), (t169), (t170), (x6_1), (by first | rfl | (simp; done) | (simp [*]; done)), H', ⟨by have := HK1.out; omega⟩, ⟨bs_⟩, ⟨bs_⟩, ⟨bs_⟩, ⟨bel_⟩⟩
     rw [if_neg c15] at H
     have c15b0 : (t162 == (bt a0 0)) = false := beq_eq_false_iff_ne.mpr c15
     have c15b1 : (t162 != (bt a0 0)) = true := bne_iff_ne.mpr c15
     have H' := Aside0.mk H
     clear H
     try go_wp2
     replace BK159 := Aside0.mk (blk_drew BK159.out)
     replace BK160 := Aside0.mk (blk_drew BK160.out)
     replace BK161 := Aside0.mk (blk_drew BK161.out)
     replace HB := Aside0.mk (below_drew1 HB.out)
     have p14 : 0 ≤ (0 : Int) := (by omega)
     have q14 : 0 < a0.size := (by have : (0 : Int) < (a0.size : Int) := of_decide_eq_true (by first | (with_reducible assumption) | assumption); omega)
     have hx14 : ∀ h : 0 < a0.size, ((a0[0]'h).toNat : Int) = bt a0 0 := bt_at a0 0
     clear p14
     have qi14 : (0 < (a0.size : Int)) = True := eq_true (of_decide_eq_true (by first | (with_reducible assumption) | assumption))
     replace q14 := eq_true q14
     refine start_ (n := 5) (S := fun w' => True) (ds := []) #[false, false, false, false, false] (by kernel_rfl) rfl rfl trivial (fun hHeld => ?_)
     generalize wr.drew = w21 at BK159 BK160 BK161 HB hHeld ⊢
     refine pu_ 0 19 ?_
     refine pu_ 2 21 ?_
     refine take_ (i := 3) (N := some 22) (v := ?_) (a' := ?_) #[true, false, true, true, false] rfl rfl (by kernel_rfl) (fun _ _ _ h => h) (Or.inl ⟨by rfl, ?_⟩) hHeld ?_ ?_
     rotate_left
     ·intro w' _
      go_simp
      with_reducible rfl
     rotate_left
     ·simp only [Act.put, List.setIfInBounds_toArray, List.set_cons_zero, List.set_cons_succ, i64_w, i32_w]
      rfl
     refine on_ 1 20 (fun K hK => ?_)
     refine goes_ Tryz.func50 (by kernel_rfl) rfl #[.pointer (some ⟨gb160, 0, none⟩), .int .u8 x6_1] (by rfl) rfl rfl (by (try simp only [List.map_toArray, List.map_cons, List.map_nil]); first | done | rfl | (simp only [List.length_drop, List.length_take]; rfl)) ?_
     with_reducible refine (inode_letters_letter.calls gb160 x161000_1 x161001_1 x161002_1 x161003_1 x161004_1 x161005_1 x161006_1 x161007_1 x6_1 t162 t163 t164 t165 t166 t167 t168 t169 t170 w _ ?side1 ?side2 A12.out).mono ?_
     (case side1 => exact ⟨(bk_ BK160), GE160.out⟩)
     (case side2 => repeat (first | (with_reducible first | exact HB.out | apply below_alloc | apply pw_below_drewN | apply below_drew1 | refine below_set ?_ GE159.out | refine below_set ?_ GE160.out | refine below_set ?_ GE161.out) | exact HB.out))
     rintro e w22 ⟨rfl, hi, hb, hk⟩
     refine ⟨_, rfl, ?_⟩
     replace BK159 := Aside0.mk (KeepBut.blk hk (g' := gb159) (o := .cells #[.int .u8 0, .int .u32 0, .string (⟨#[]⟩ : ByteArray), .int .u32 0] 37 (0, 0)) (bk_ BK159) NB159_160.out (by simp))
     replace BK161 := Aside0.mk (KeepBut.blk hk (g' := gb161) (o := .cells #[.int .u8 x162000_1, .int .u32 0, .string (⟨#[]⟩ : ByteArray), .int .u32 0] 37 (0, 0)) (bk_ BK161) NB161_160.out (by simp))
     replace HB := Aside0.mk (hb)
     replace BK160 := Aside0.mk (hi.1)
     (try clear hb)
     (try clear hb2)
     (try clear hk)
     (try clear hi)
     refine hK.out _ _ trivial (fun hHeld => ?_)
     clear hK K
     refine nm_ 20 ?_
     refine pu_ 4 23 ?_
     refine done_ (by kernel_rfl) ?_
     try go_wp2
     go_roundg k1
     case measure => have := HK1.out; omega
     case rel => exact ⟨((x6_1 + 1) % 256), (t163), (t164), (t165), (t166), (t167), (t168), (t169), (t170), (x162000_1), (by first | rfl | (simp; done) | (simp [*]; done)), H', ⟨by have := HK1.out; omega⟩, ⟨bk_ BK159⟩, ⟨bk_ BK160⟩, ⟨bk_ BK161⟩, ⟨bel_⟩⟩
    rw [if_neg c13] at H
    exact absurd H (by simp)
   rw [if_neg c11] at H
   have c11b0 : decide (x6_1 < 5) = false := decide_eq_false c11
   clear c11
   by_cases c23 : 1 ≤ (a0.size : Int)
   ·rw [if_pos c23] at H
    have c23b0 := eq_true c23
    have c23b1 : decide (1 ≤ (a0.size : Int)) = true := decide_eq_true c23
    clear c23
    replace H := Option.bind_eq_some_iff.mp H
    obtain ⟨⟨t172, t173, t174⟩, A240, H⟩ := H
    replace H : (if x162000_1 = 3 then ((inode_taker_number.f k1 t173 t174 4).bind fun bt175 => ((inode_Key.f k1 x162000_1 ((t172) % 4294967296) (⟨#[]⟩ : ByteArray) ((bt175.1) % 4294967296)).bind fun bt178 => (if bt175.2.2 = true then (some (0, 0, (⟨#[]⟩ : ByteArray), 0, 4)) else (if bt178.2 = 0 then (if bt178.1.toList = a0.toList then (some (x162000_1, (t172) % 4294967296, (⟨#[]⟩ : ByteArray), (bt175.1) % 4294967296, 0)) else (some (0, 0, (⟨#[]⟩ : ByteArray), 0, 4))) else (some (0, 0, (⟨#[]⟩ : ByteArray), 0, 4)))))) else ((inode_Key.f k1 x162000_1 ((t172) % 4294967296) t173 0).bind fun bt180 => (if t174 = true then (some (0, 0, (⟨#[]⟩ : ByteArray), 0, 4)) else (if bt180.2 = 0 then (if bt180.1.toList = a0.toList then (some (x162000_1, (t172) % 4294967296, t173, 0, 0)) else (some (0, 0, (⟨#[]⟩ : ByteArray), 0, 4))) else (some (0, 0, (⟨#[]⟩ : ByteArray), 0, 4)))))) = some (r1, r2, r3, r4, r5) := H
    have A24 := Aside0.mk A240
    clear A240
    by_cases c25 : x162000_1 = 3
    ·rw [if_pos c25] at H
     have c25b0 : (x162000_1 == 3) = true := beq_iff_eq.mpr c25
     have c25b1 : (x162000_1 != 3) = false := bne_eq_false_iff_eq.mpr c25
     clear c25
     replace H := Option.bind_eq_some_iff.mp H
     obtain ⟨⟨t175, t176, t177⟩, A260, H⟩ := H
     replace H : ((inode_Key.f k1 x162000_1 ((t172) % 4294967296) (⟨#[]⟩ : ByteArray) ((t175) % 4294967296)).bind fun bt178 => (if t177 = true then (some (0, 0, (⟨#[]⟩ : ByteArray), 0, 4)) else (if bt178.2 = 0 then (if bt178.1.toList = a0.toList then (some (x162000_1, (t172) % 4294967296, (⟨#[]⟩ : ByteArray), (t175) % 4294967296, 0)) else (some (0, 0, (⟨#[]⟩ : ByteArray), 0, 4))) else (some (0, 0, (⟨#[]⟩ : ByteArray), 0, 4))))) = some (r1, r2, r3, r4, r5) := H
     have A26 := Aside0.mk A260
     clear A260
     replace H := Option.bind_eq_some_iff.mp H
     obtain ⟨⟨t178, t179⟩, A270, H⟩ := H
     replace H : (if t177 = true then (some (0, 0, (⟨#[]⟩ : ByteArray), 0, 4)) else (if t179 = 0 then (if t178.toList = a0.toList then (some (x162000_1, (t172) % 4294967296, (⟨#[]⟩ : ByteArray), (t175) % 4294967296, 0)) else (some (0, 0, (⟨#[]⟩ : ByteArray), 0, 4))) else (some (0, 0, (⟨#[]⟩ : ByteArray), 0, 4)))) = some (r1, r2, r3, r4, r5) := H
     have A27 := Aside0.mk A270
     clear A270
     by_cases c28 : t177 = true
     ·subst c28
      have H1 : (some (0, 0, (⟨#[]⟩ : ByteArray), 0, 4)) = some (r1, r2, r3, r4, r5) := by rw [if_pos rfl] at H; exact H
      clear H
      have H := H1
      clear H1
      simp only [Option.some.injEq, Prod.mk.injEq] at H
      obtain ⟨rfl, rfl, rfl, rfl, rfl⟩ := H
      go_wp2_with (first | ((with_reducible refine gate_dst (N := 29) rfl ?_); refine bx_ (N := 29) (cs := #[.string (a0.extract 1 a0.size), .bool false]) (t := 156) ?_; intro gb171 hg w29 hbox hb; have BK171 := Aside0.mk (hbox); have GW171 := ge_ hg; have GE171 := ge_ hg; have NB159_171 := nl_ BK159 hg; have NB171_159 := ng_ BK159 hg; have NB160_171 := nl_ BK160 hg; have NB171_160 := ng_ BK160 hg; have NB161_171 := nl_ BK161 hg; have NB171_161 := ng_ BK161 hg; replace BK159 := kb_ BK159 hb; replace BK160 := kb_ BK160 hb; replace BK161 := kb_ BK161 hb; replace HB := hb_ hb; clear hb hbox hg) | ((with_reducible refine gate_callee (f := 68) rfl ?_); refine gl_ (some 31) Tryz.func68 #[.pointer (some ⟨gb171, 0, none⟩), .int .i64 4] ?_; (with_reducible refine (inode_taker_number.calls k1 gb171 (a0.extract 1 a0.size) false 4 t172 t173 t174 w _ ?side1 ?side2 A24.out).mono ?_); (case side1 => exact ⟨(bk_ BK171), GE171.out⟩); (case side2 => repeat (first | (with_reducible first | exact HB.out | apply below_alloc | apply pw_below_drewN | apply below_drew1 | refine below_set ?_ GE159.out | refine below_set ?_ GE160.out | refine below_set ?_ GE161.out | refine below_set ?_ GE171.out) | exact HB.out)); rintro e w30 ⟨rfl, hi, hb, hk⟩; refine ⟨_, rfl, ?_⟩; replace BK159 := Aside0.mk (KeepBut.blk hk (g' := gb159) (o := .cells #[.int .u8 0, .int .u32 0, .string (⟨#[]⟩ : ByteArray), .int .u32 0] 37 (0, 0)) (bk_ BK159) NB159_171.out (by simp)); replace BK160 := Aside0.mk (KeepBut.blk hk (g' := gb160) (o := .cells #[.int .u32 x161000_1, .int .i32 x161001_1, .int .u32 x161002_1, .int .u8 x161003_1, .int .u8 x161004_1, .int .u8 x161005_1, .int .u8 x161006_1, .int .u8 x161007_1] 128 (0, 0)) (bk_ BK160) NB160_171.out (by simp)); replace BK161 := Aside0.mk (KeepBut.blk hk (g' := gb161) (o := .cells #[.int .u8 x162000_1, .int .u32 0, .string (⟨#[]⟩ : ByteArray), .int .u32 0] 37 (0, 0)) (bk_ BK161) NB161_171.out (by simp)); replace HB := Aside0.mk (hb); replace BK171 := Aside0.mk (hi.1); (try clear hb); (try clear hb2); (try clear hk); (try clear hi); have hnb31 := NB161_159.out; have hnc31 := NB159_161.out; have hnb32 := NB161_160.out; have hnc32 := NB160_161.out; have hnb33 := NB161_171.out; have hnc33 := NB171_161.out; obtain ⟨hcz34_0, hcz34_1, hcz34_2, hcz34_3⟩ := cl4_ BK161; obtain ⟨hfz34_0, hfz34_1, hfz34_2, hfz34_3⟩ := fz4_ BK161) | ((with_reducible refine gate_callee (f := 68) rfl ?_); refine gl_ (some 38) Tryz.func68 #[.pointer (some ⟨gb171, 0, none⟩), .int .i64 4] ?_; (with_reducible refine (inode_taker_number.calls k1 gb171 t173 t174 4 t175 t176 true w _ ?side1 ?side2 A26.out).mono ?_); (case side1 => exact ⟨(bs_), GE171.out⟩); (case side2 => repeat (first | (with_reducible first | exact HB.out | apply below_alloc | apply pw_below_drewN | apply below_drew1 | refine below_set ?_ GE159.out | refine below_set ?_ GE160.out | refine below_set ?_ GE161.out | refine below_set ?_ GE171.out) | exact HB.out)); rintro e w35 ⟨rfl, hi, hb, hk⟩; refine ⟨_, rfl, ?_⟩; replace BK159 := Aside0.mk (KeepBut.blk hk (g' := gb159) (o := .cells #[.int .u8 0, .int .u32 0, .string (⟨#[]⟩ : ByteArray), .int .u32 0] 37 (0, 0)) (bs_) NB159_171.out (by simp)); replace BK160 := Aside0.mk (KeepBut.blk hk (g' := gb160) (o := .cells #[.int .u32 x161000_1, .int .i32 x161001_1, .int .u32 x161002_1, .int .u8 x161003_1, .int .u8 x161004_1, .int .u8 x161005_1, .int .u8 x161006_1, .int .u8 x161007_1] 128 (0, 0)) (bs_) NB160_171.out (by simp)); replace BK161 := Aside0.mk (KeepBut.blk hk (g' := gb161) (o := .cells #[.int .u8 x162000_1, .int .u32 ((t172) % 4294967296), .string (⟨#[]⟩ : ByteArray), .int .u32 0] 37 (0, 0)) (bs_) NB161_171.out (by simp)); replace HB := Aside0.mk (hb); replace BK171 := Aside0.mk (hi.1); (try clear hb); (try clear hb2); (try clear hk); (try clear hi); obtain ⟨hcz36_0, hcz36_1, hcz36_2, hcz36_3⟩ := cl4_ BK161; obtain ⟨hfz36_0, hfz36_1, hfz36_2, hfz36_3⟩ := fz4_ BK161) | ((with_reducible refine gate_callee (f := 7) rfl ?_); refine gl_ (some 48) Tryz.func7 #[.agg #[.int .u8 x162000_1, .int .u32 ((t172) % 4294967296), .string (⟨#[]⟩ : ByteArray), .int .u32 ((t175) % 4294967296)]] ?_; (with_reducible refine (inode_Key.calls k1 x162000_1 ((t172) % 4294967296) (⟨#[]⟩ : ByteArray) ((t175) % 4294967296) t178 t179 _ A27.out).mono ?_); rintro e w37 ⟨rfl, hb⟩; refine ⟨_, rfl, ?_⟩; replace BK159 := Aside0.mk (blk_below (g := gb159) (o := .cells #[.int .u8 0, .int .u32 0, .string (⟨#[]⟩ : ByteArray), .int .u32 0] 37 (0, 0)) (bs_) hb); replace BK160 := Aside0.mk (blk_below (g := gb160) (o := .cells #[.int .u32 x161000_1, .int .i32 x161001_1, .int .u32 x161002_1, .int .u8 x161003_1, .int .u8 x161004_1, .int .u8 x161005_1, .int .u8 x161006_1, .int .u8 x161007_1] 128 (0, 0)) (bs_) hb); replace BK161 := Aside0.mk (blk_below (g := gb161) (o := .cells #[.int .u8 x162000_1, .int .u32 ((t172) % 4294967296), .string (⟨#[]⟩ : ByteArray), .int .u32 ((t175) % 4294967296)] 37 (0, 0)) (bs_) hb); replace BK171 := Aside0.mk (blk_below (g := gb171) (o := .cells #[.string t176, .bool true] 156 (0, 0)) (bs_) hb); replace HB := hb_ hb; (try clear hb); (try clear hb2); (try clear hk); (try clear hi); have hnb38 := NB171_159.out; have hnc38 := NB159_171.out; have hnb39 := NB171_160.out; have hnc39 := NB160_171.out; obtain ⟨hcz40_0, hcz40_1⟩ := cl2_ BK171; obtain ⟨hfz40_0, hfz40_1⟩ := fz2_ BK171; have hnb41 := NB159_160.out; have hnc41 := NB160_159.out; obtain ⟨hcz42_0, hcz42_1, hcz42_2, hcz42_3⟩ := cl4_ BK159; obtain ⟨hfz42_0, hfz42_1, hfz42_2, hfz42_3⟩ := fz4_ BK159))
      refine bodyPost_ret (results_ct rfl _ _ gb159 37 #[.int .u8 0, .int .u32 0, .string (⟨#[]⟩ : ByteArray), .int .u32 0] (0, 0) _ rfl (bs_) Tryz.underlying37 rfl (by kernel_rfl)) rfl ?_
      exact ⟨by first | rfl | (simp [errW_none, errW_some] <;> rfl) | (simp [*, errW_none, errW_some] <;> rfl), bel_⟩
     replace c28 := Bool.eq_false_iff.mpr c28
     subst c28
     have H1 : (if t179 = 0 then (if t178.toList = a0.toList then (some (x162000_1, (t172) % 4294967296, (⟨#[]⟩ : ByteArray), (t175) % 4294967296, 0)) else (some (0, 0, (⟨#[]⟩ : ByteArray), 0, 4))) else (some (0, 0, (⟨#[]⟩ : ByteArray), 0, 4))) = some (r1, r2, r3, r4, r5) := by rw [if_neg (show ¬ (false = true) by decide)] at H; exact H
     clear H
     have H := H1
     clear H1
     by_cases c43 : t179 = 0
     ·rw [if_pos c43] at H
      have c43b0 : (t179 == 0) = true := beq_iff_eq.mpr c43
      have c43b1 : (t179 != 0) = false := bne_eq_false_iff_eq.mpr c43
      clear c43
      by_cases c44 : t178.toList = a0.toList
      ·rw [if_pos c44] at H
       have c44b0 : (t178.toList == a0.toList) = true := beq_iff_eq.mpr c44
       have c44b1 : (t178.toList != a0.toList) = false := bne_eq_false_iff_eq.mpr c44
       clear c44
       simp only [Option.some.injEq, Prod.mk.injEq] at H
       obtain ⟨rfl, rfl, rfl, rfl, rfl⟩ := H
       go_wp2_with (first | ((with_reducible refine gate_dst (N := 29) rfl ?_); refine bx_ (N := 29) (cs := #[.string (a0.extract 1 a0.size), .bool false]) (t := 156) ?_; intro gb171 hg w45 hbox hb; have BK171 := Aside0.mk (hbox); have GW171 := ge_ hg; have GE171 := ge_ hg; have NB159_171 := nl_ BK159 hg; have NB171_159 := ng_ BK159 hg; have NB160_171 := nl_ BK160 hg; have NB171_160 := ng_ BK160 hg; have NB161_171 := nl_ BK161 hg; have NB171_161 := ng_ BK161 hg; replace BK159 := kb_ BK159 hb; replace BK160 := kb_ BK160 hb; replace BK161 := kb_ BK161 hb; replace HB := hb_ hb; clear hb hbox hg) | ((with_reducible refine gate_callee (f := 68) rfl ?_); refine gl_ (some 31) Tryz.func68 #[.pointer (some ⟨gb171, 0, none⟩), .int .i64 4] ?_; (with_reducible refine (inode_taker_number.calls k1 gb171 (a0.extract 1 a0.size) false 4 t172 t173 t174 w _ ?side1 ?side2 A24.out).mono ?_); (case side1 => exact ⟨(bk_ BK171), GE171.out⟩); (case side2 => repeat (first | (with_reducible first | exact HB.out | apply below_alloc | apply pw_below_drewN | apply below_drew1 | refine below_set ?_ GE159.out | refine below_set ?_ GE160.out | refine below_set ?_ GE161.out | refine below_set ?_ GE171.out) | exact HB.out)); rintro e w46 ⟨rfl, hi, hb, hk⟩; refine ⟨_, rfl, ?_⟩; replace BK159 := Aside0.mk (KeepBut.blk hk (g' := gb159) (o := .cells #[.int .u8 0, .int .u32 0, .string (⟨#[]⟩ : ByteArray), .int .u32 0] 37 (0, 0)) (bk_ BK159) NB159_171.out (by simp)); replace BK160 := Aside0.mk (KeepBut.blk hk (g' := gb160) (o := .cells #[.int .u32 x161000_1, .int .i32 x161001_1, .int .u32 x161002_1, .int .u8 x161003_1, .int .u8 x161004_1, .int .u8 x161005_1, .int .u8 x161006_1, .int .u8 x161007_1] 128 (0, 0)) (bk_ BK160) NB160_171.out (by simp)); replace BK161 := Aside0.mk (KeepBut.blk hk (g' := gb161) (o := .cells #[.int .u8 x162000_1, .int .u32 0, .string (⟨#[]⟩ : ByteArray), .int .u32 0] 37 (0, 0)) (bk_ BK161) NB161_171.out (by simp)); replace HB := Aside0.mk (hb); replace BK171 := Aside0.mk (hi.1); (try clear hb); (try clear hb2); (try clear hk); (try clear hi); have hnb47 := NB161_159.out; have hnc47 := NB159_161.out; have hnb48 := NB161_160.out; have hnc48 := NB160_161.out; have hnb49 := NB161_171.out; have hnc49 := NB171_161.out; obtain ⟨hcz50_0, hcz50_1, hcz50_2, hcz50_3⟩ := cl4_ BK161; obtain ⟨hfz50_0, hfz50_1, hfz50_2, hfz50_3⟩ := fz4_ BK161) | ((with_reducible refine gate_callee (f := 68) rfl ?_); refine gl_ (some 38) Tryz.func68 #[.pointer (some ⟨gb171, 0, none⟩), .int .i64 4] ?_; (with_reducible refine (inode_taker_number.calls k1 gb171 t173 t174 4 t175 t176 false w _ ?side1 ?side2 A26.out).mono ?_); (case side1 => exact ⟨(bs_), GE171.out⟩); (case side2 => repeat (first | (with_reducible first | exact HB.out | apply below_alloc | apply pw_below_drewN | apply below_drew1 | refine below_set ?_ GE159.out | refine below_set ?_ GE160.out | refine below_set ?_ GE161.out | refine below_set ?_ GE171.out) | exact HB.out)); rintro e w51 ⟨rfl, hi, hb, hk⟩; refine ⟨_, rfl, ?_⟩; replace BK159 := Aside0.mk (KeepBut.blk hk (g' := gb159) (o := .cells #[.int .u8 0, .int .u32 0, .string (⟨#[]⟩ : ByteArray), .int .u32 0] 37 (0, 0)) (bs_) NB159_171.out (by simp)); replace BK160 := Aside0.mk (KeepBut.blk hk (g' := gb160) (o := .cells #[.int .u32 x161000_1, .int .i32 x161001_1, .int .u32 x161002_1, .int .u8 x161003_1, .int .u8 x161004_1, .int .u8 x161005_1, .int .u8 x161006_1, .int .u8 x161007_1] 128 (0, 0)) (bs_) NB160_171.out (by simp)); replace BK161 := Aside0.mk (KeepBut.blk hk (g' := gb161) (o := .cells #[.int .u8 x162000_1, .int .u32 ((t172) % 4294967296), .string (⟨#[]⟩ : ByteArray), .int .u32 0] 37 (0, 0)) (bs_) NB161_171.out (by simp)); replace HB := Aside0.mk (hb); replace BK171 := Aside0.mk (hi.1); (try clear hb); (try clear hb2); (try clear hk); (try clear hi); obtain ⟨hcz52_0, hcz52_1, hcz52_2, hcz52_3⟩ := cl4_ BK161; obtain ⟨hfz52_0, hfz52_1, hfz52_2, hfz52_3⟩ := fz4_ BK161) | ((with_reducible refine gate_callee (f := 7) rfl ?_); refine gl_ (some 48) Tryz.func7 #[.agg #[.int .u8 x162000_1, .int .u32 ((t172) % 4294967296), .string (⟨#[]⟩ : ByteArray), .int .u32 ((t175) % 4294967296)]] ?_; (with_reducible refine (inode_Key.calls k1 x162000_1 ((t172) % 4294967296) (⟨#[]⟩ : ByteArray) ((t175) % 4294967296) t178 t179 _ A27.out).mono ?_); rintro e w53 ⟨rfl, hb⟩; refine ⟨_, rfl, ?_⟩; replace BK159 := Aside0.mk (blk_below (g := gb159) (o := .cells #[.int .u8 0, .int .u32 0, .string (⟨#[]⟩ : ByteArray), .int .u32 0] 37 (0, 0)) (bs_) hb); replace BK160 := Aside0.mk (blk_below (g := gb160) (o := .cells #[.int .u32 x161000_1, .int .i32 x161001_1, .int .u32 x161002_1, .int .u8 x161003_1, .int .u8 x161004_1, .int .u8 x161005_1, .int .u8 x161006_1, .int .u8 x161007_1] 128 (0, 0)) (bs_) hb); replace BK161 := Aside0.mk (blk_below (g := gb161) (o := .cells #[.int .u8 x162000_1, .int .u32 ((t172) % 4294967296), .string (⟨#[]⟩ : ByteArray), .int .u32 ((t175) % 4294967296)] 37 (0, 0)) (bs_) hb); replace BK171 := Aside0.mk (blk_below (g := gb171) (o := .cells #[.string t176, .bool false] 156 (0, 0)) (bs_) hb); replace HB := hb_ hb; (try clear hb); (try clear hb2); (try clear hk); (try clear hi); have hnb54 := NB171_159.out; have hnc54 := NB159_171.out; have hnb55 := NB171_160.out; have hnc55 := NB160_171.out; obtain ⟨hcz56_0, hcz56_1⟩ := cl2_ BK171; obtain ⟨hfz56_0, hfz56_1⟩ := fz2_ BK171; obtain ⟨hcz57_0, hcz57_1, hcz57_2, hcz57_3⟩ := cl4_ BK161; obtain ⟨hfz57_0, hfz57_1, hfz57_2, hfz57_3⟩ := fz4_ BK161; have hnb58 := NB159_160.out; have hnc58 := NB160_159.out; obtain ⟨hcz59_0, hcz59_1, hcz59_2, hcz59_3⟩ := cl4_ BK159; obtain ⟨hfz59_0, hfz59_1, hfz59_2, hfz59_3⟩ := fz4_ BK159))
       refine bodyPost_ret (results_ct rfl _ _ gb159 37 #[.int .u8 x162000_1, .int .u32 ((t172) % 4294967296), .string (⟨#[]⟩ : ByteArray), .int .u32 ((t175) % 4294967296)] (0, 0) _ rfl (bs_) Tryz.underlying37 rfl (by kernel_rfl)) rfl ?_
       exact ⟨by first | rfl | (simp [errW_none, errW_some] <;> rfl) | (simp [*, errW_none, errW_some] <;> rfl), bel_⟩
      rw [if_neg c44] at H
      have c44b0 : (t178.toList == a0.toList) = false := beq_eq_false_iff_ne.mpr c44
      have c44b1 : (t178.toList != a0.toList) = true := bne_iff_ne.mpr c44
      simp only [Option.some.injEq, Prod.mk.injEq] at H
      obtain ⟨rfl, rfl, rfl, rfl, rfl⟩ := H
      go_wp2_with (first | ((with_reducible refine gate_dst (N := 29) rfl ?_); refine bx_ (N := 29) (cs := #[.string (a0.extract 1 a0.size), .bool false]) (t := 156) ?_; intro gb171 hg w60 hbox hb; have BK171 := Aside0.mk (hbox); have GW171 := ge_ hg; have GE171 := ge_ hg; have NB159_171 := nl_ BK159 hg; have NB171_159 := ng_ BK159 hg; have NB160_171 := nl_ BK160 hg; have NB171_160 := ng_ BK160 hg; have NB161_171 := nl_ BK161 hg; have NB171_161 := ng_ BK161 hg; replace BK159 := kb_ BK159 hb; replace BK160 := kb_ BK160 hb; replace BK161 := kb_ BK161 hb; replace HB := hb_ hb; clear hb hbox hg) | ((with_reducible refine gate_callee (f := 68) rfl ?_); refine gl_ (some 31) Tryz.func68 #[.pointer (some ⟨gb171, 0, none⟩), .int .i64 4] ?_; (with_reducible refine (inode_taker_number.calls k1 gb171 (a0.extract 1 a0.size) false 4 t172 t173 t174 w _ ?side1 ?side2 A24.out).mono ?_); (case side1 => exact ⟨(bk_ BK171), GE171.out⟩); (case side2 => repeat (first | (with_reducible first | exact HB.out | apply below_alloc | apply pw_below_drewN | apply below_drew1 | refine below_set ?_ GE159.out | refine below_set ?_ GE160.out | refine below_set ?_ GE161.out | refine below_set ?_ GE171.out) | exact HB.out)); rintro e w61 ⟨rfl, hi, hb, hk⟩; refine ⟨_, rfl, ?_⟩; replace BK159 := Aside0.mk (KeepBut.blk hk (g' := gb159) (o := .cells #[.int .u8 0, .int .u32 0, .string (⟨#[]⟩ : ByteArray), .int .u32 0] 37 (0, 0)) (bk_ BK159) NB159_171.out (by simp)); replace BK160 := Aside0.mk (KeepBut.blk hk (g' := gb160) (o := .cells #[.int .u32 x161000_1, .int .i32 x161001_1, .int .u32 x161002_1, .int .u8 x161003_1, .int .u8 x161004_1, .int .u8 x161005_1, .int .u8 x161006_1, .int .u8 x161007_1] 128 (0, 0)) (bk_ BK160) NB160_171.out (by simp)); replace BK161 := Aside0.mk (KeepBut.blk hk (g' := gb161) (o := .cells #[.int .u8 x162000_1, .int .u32 0, .string (⟨#[]⟩ : ByteArray), .int .u32 0] 37 (0, 0)) (bk_ BK161) NB161_171.out (by simp)); replace HB := Aside0.mk (hb); replace BK171 := Aside0.mk (hi.1); (try clear hb); (try clear hb2); (try clear hk); (try clear hi); have hnb62 := NB161_159.out; have hnc62 := NB159_161.out; have hnb63 := NB161_160.out; have hnc63 := NB160_161.out; have hnb64 := NB161_171.out; have hnc64 := NB171_161.out; obtain ⟨hcz65_0, hcz65_1, hcz65_2, hcz65_3⟩ := cl4_ BK161; obtain ⟨hfz65_0, hfz65_1, hfz65_2, hfz65_3⟩ := fz4_ BK161) | ((with_reducible refine gate_callee (f := 68) rfl ?_); refine gl_ (some 38) Tryz.func68 #[.pointer (some ⟨gb171, 0, none⟩), .int .i64 4] ?_; (with_reducible refine (inode_taker_number.calls k1 gb171 t173 t174 4 t175 t176 false w _ ?side1 ?side2 A26.out).mono ?_); (case side1 => exact ⟨(bs_), GE171.out⟩); (case side2 => repeat (first | (with_reducible first | exact HB.out | apply below_alloc | apply pw_below_drewN | apply below_drew1 | refine below_set ?_ GE159.out | refine below_set ?_ GE160.out | refine below_set ?_ GE161.out | refine below_set ?_ GE171.out) | exact HB.out)); rintro e w66 ⟨rfl, hi, hb, hk⟩; refine ⟨_, rfl, ?_⟩; replace BK159 := Aside0.mk (KeepBut.blk hk (g' := gb159) (o := .cells #[.int .u8 0, .int .u32 0, .string (⟨#[]⟩ : ByteArray), .int .u32 0] 37 (0, 0)) (bs_) NB159_171.out (by simp)); replace BK160 := Aside0.mk (KeepBut.blk hk (g' := gb160) (o := .cells #[.int .u32 x161000_1, .int .i32 x161001_1, .int .u32 x161002_1, .int .u8 x161003_1, .int .u8 x161004_1, .int .u8 x161005_1, .int .u8 x161006_1, .int .u8 x161007_1] 128 (0, 0)) (bs_) NB160_171.out (by simp)); replace BK161 := Aside0.mk (KeepBut.blk hk (g' := gb161) (o := .cells #[.int .u8 x162000_1, .int .u32 ((t172) % 4294967296), .string (⟨#[]⟩ : ByteArray), .int .u32 0] 37 (0, 0)) (bs_) NB161_171.out (by simp)); replace HB := Aside0.mk (hb); replace BK171 := Aside0.mk (hi.1); (try clear hb); (try clear hb2); (try clear hk); (try clear hi); obtain ⟨hcz67_0, hcz67_1, hcz67_2, hcz67_3⟩ := cl4_ BK161; obtain ⟨hfz67_0, hfz67_1, hfz67_2, hfz67_3⟩ := fz4_ BK161) | ((with_reducible refine gate_callee (f := 7) rfl ?_); refine gl_ (some 48) Tryz.func7 #[.agg #[.int .u8 x162000_1, .int .u32 ((t172) % 4294967296), .string (⟨#[]⟩ : ByteArray), .int .u32 ((t175) % 4294967296)]] ?_; (with_reducible refine (inode_Key.calls k1 x162000_1 ((t172) % 4294967296) (⟨#[]⟩ : ByteArray) ((t175) % 4294967296) t178 t179 _ A27.out).mono ?_); rintro e w68 ⟨rfl, hb⟩; refine ⟨_, rfl, ?_⟩; replace BK159 := Aside0.mk (blk_below (g := gb159) (o := .cells #[.int .u8 0, .int .u32 0, .string (⟨#[]⟩ : ByteArray), .int .u32 0] 37 (0, 0)) (bs_) hb); replace BK160 := Aside0.mk (blk_below (g := gb160) (o := .cells #[.int .u32 x161000_1, .int .i32 x161001_1, .int .u32 x161002_1, .int .u8 x161003_1, .int .u8 x161004_1, .int .u8 x161005_1, .int .u8 x161006_1, .int .u8 x161007_1] 128 (0, 0)) (bs_) hb); replace BK161 := Aside0.mk (blk_below (g := gb161) (o := .cells #[.int .u8 x162000_1, .int .u32 ((t172) % 4294967296), .string (⟨#[]⟩ : ByteArray), .int .u32 ((t175) % 4294967296)] 37 (0, 0)) (bs_) hb); replace BK171 := Aside0.mk (blk_below (g := gb171) (o := .cells #[.string t176, .bool false] 156 (0, 0)) (bs_) hb); replace HB := hb_ hb; (try clear hb); (try clear hb2); (try clear hk); (try clear hi); have hnb69 := NB171_159.out; have hnc69 := NB159_171.out; have hnb70 := NB171_160.out; have hnc70 := NB160_171.out; obtain ⟨hcz71_0, hcz71_1⟩ := cl2_ BK171; obtain ⟨hfz71_0, hfz71_1⟩ := fz2_ BK171; have hnb72 := NB159_160.out; have hnc72 := NB160_159.out; obtain ⟨hcz73_0, hcz73_1, hcz73_2, hcz73_3⟩ := cl4_ BK159; obtain ⟨hfz73_0, hfz73_1, hfz73_2, hfz73_3⟩ := fz4_ BK159))
      refine bodyPost_ret (results_ct rfl _ _ gb159 37 #[.int .u8 0, .int .u32 0, .string (⟨#[]⟩ : ByteArray), .int .u32 0] (0, 0) _ rfl (bs_) Tryz.underlying37 rfl (by kernel_rfl)) rfl ?_
      exact ⟨by first | rfl | (simp [errW_none, errW_some] <;> rfl) | (simp [*, errW_none, errW_some] <;> rfl), bel_⟩
     rw [if_neg c43] at H
     have c43b0 : (t179 == 0) = false := beq_eq_false_iff_ne.mpr c43
     have c43b1 : (t179 != 0) = true := bne_iff_ne.mpr c43
     simp only [Option.some.injEq, Prod.mk.injEq] at H
     obtain ⟨rfl, rfl, rfl, rfl, rfl⟩ := H
     go_wp2_with (first | ((with_reducible refine gate_dst (N := 29) rfl ?_); refine bx_ (N := 29) (cs := #[.string (a0.extract 1 a0.size), .bool false]) (t := 156) ?_; intro gb171 hg w74 hbox hb; have BK171 := Aside0.mk (hbox); have GW171 := ge_ hg; have GE171 := ge_ hg; have NB159_171 := nl_ BK159 hg; have NB171_159 := ng_ BK159 hg; have NB160_171 := nl_ BK160 hg; have NB171_160 := ng_ BK160 hg; have NB161_171 := nl_ BK161 hg; have NB171_161 := ng_ BK161 hg; replace BK159 := kb_ BK159 hb; replace BK160 := kb_ BK160 hb; replace BK161 := kb_ BK161 hb; replace HB := hb_ hb; clear hb hbox hg) | ((with_reducible refine gate_callee (f := 68) rfl ?_); refine gl_ (some 31) Tryz.func68 #[.pointer (some ⟨gb171, 0, none⟩), .int .i64 4] ?_; (with_reducible refine (inode_taker_number.calls k1 gb171 (a0.extract 1 a0.size) false 4 t172 t173 t174 w _ ?side1 ?side2 A24.out).mono ?_); (case side1 => exact ⟨(bk_ BK171), GE171.out⟩); (case side2 => repeat (first | (with_reducible first | exact HB.out | apply below_alloc | apply pw_below_drewN | apply below_drew1 | refine below_set ?_ GE159.out | refine below_set ?_ GE160.out | refine below_set ?_ GE161.out | refine below_set ?_ GE171.out) | exact HB.out)); rintro e w75 ⟨rfl, hi, hb, hk⟩; refine ⟨_, rfl, ?_⟩; replace BK159 := Aside0.mk (KeepBut.blk hk (g' := gb159) (o := .cells #[.int .u8 0, .int .u32 0, .string (⟨#[]⟩ : ByteArray), .int .u32 0] 37 (0, 0)) (bk_ BK159) NB159_171.out (by simp)); replace BK160 := Aside0.mk (KeepBut.blk hk (g' := gb160) (o := .cells #[.int .u32 x161000_1, .int .i32 x161001_1, .int .u32 x161002_1, .int .u8 x161003_1, .int .u8 x161004_1, .int .u8 x161005_1, .int .u8 x161006_1, .int .u8 x161007_1] 128 (0, 0)) (bk_ BK160) NB160_171.out (by simp)); replace BK161 := Aside0.mk (KeepBut.blk hk (g' := gb161) (o := .cells #[.int .u8 x162000_1, .int .u32 0, .string (⟨#[]⟩ : ByteArray), .int .u32 0] 37 (0, 0)) (bk_ BK161) NB161_171.out (by simp)); replace HB := Aside0.mk (hb); replace BK171 := Aside0.mk (hi.1); (try clear hb); (try clear hb2); (try clear hk); (try clear hi); have hnb76 := NB161_159.out; have hnc76 := NB159_161.out; have hnb77 := NB161_160.out; have hnc77 := NB160_161.out; have hnb78 := NB161_171.out; have hnc78 := NB171_161.out; obtain ⟨hcz79_0, hcz79_1, hcz79_2, hcz79_3⟩ := cl4_ BK161; obtain ⟨hfz79_0, hfz79_1, hfz79_2, hfz79_3⟩ := fz4_ BK161) | ((with_reducible refine gate_callee (f := 68) rfl ?_); refine gl_ (some 38) Tryz.func68 #[.pointer (some ⟨gb171, 0, none⟩), .int .i64 4] ?_; (with_reducible refine (inode_taker_number.calls k1 gb171 t173 t174 4 t175 t176 false w _ ?side1 ?side2 A26.out).mono ?_); (case side1 => exact ⟨(bs_), GE171.out⟩); (case side2 => repeat (first | (with_reducible first | exact HB.out | apply below_alloc | apply pw_below_drewN | apply below_drew1 | refine below_set ?_ GE159.out | refine below_set ?_ GE160.out | refine below_set ?_ GE161.out | refine below_set ?_ GE171.out) | exact HB.out)); rintro e w80 ⟨rfl, hi, hb, hk⟩; refine ⟨_, rfl, ?_⟩; replace BK159 := Aside0.mk (KeepBut.blk hk (g' := gb159) (o := .cells #[.int .u8 0, .int .u32 0, .string (⟨#[]⟩ : ByteArray), .int .u32 0] 37 (0, 0)) (bs_) NB159_171.out (by simp)); replace BK160 := Aside0.mk (KeepBut.blk hk (g' := gb160) (o := .cells #[.int .u32 x161000_1, .int .i32 x161001_1, .int .u32 x161002_1, .int .u8 x161003_1, .int .u8 x161004_1, .int .u8 x161005_1, .int .u8 x161006_1, .int .u8 x161007_1] 128 (0, 0)) (bs_) NB160_171.out (by simp)); replace BK161 := Aside0.mk (KeepBut.blk hk (g' := gb161) (o := .cells #[.int .u8 x162000_1, .int .u32 ((t172) % 4294967296), .string (⟨#[]⟩ : ByteArray), .int .u32 0] 37 (0, 0)) (bs_) NB161_171.out (by simp)); replace HB := Aside0.mk (hb); replace BK171 := Aside0.mk (hi.1); (try clear hb); (try clear hb2); (try clear hk); (try clear hi); obtain ⟨hcz81_0, hcz81_1, hcz81_2, hcz81_3⟩ := cl4_ BK161; obtain ⟨hfz81_0, hfz81_1, hfz81_2, hfz81_3⟩ := fz4_ BK161) | ((with_reducible refine gate_callee (f := 7) rfl ?_); refine gl_ (some 48) Tryz.func7 #[.agg #[.int .u8 x162000_1, .int .u32 ((t172) % 4294967296), .string (⟨#[]⟩ : ByteArray), .int .u32 ((t175) % 4294967296)]] ?_; (with_reducible refine (inode_Key.calls k1 x162000_1 ((t172) % 4294967296) (⟨#[]⟩ : ByteArray) ((t175) % 4294967296) t178 t179 _ A27.out).mono ?_); rintro e w82 ⟨rfl, hb⟩; refine ⟨_, rfl, ?_⟩; replace BK159 := Aside0.mk (blk_below (g := gb159) (o := .cells #[.int .u8 0, .int .u32 0, .string (⟨#[]⟩ : ByteArray), .int .u32 0] 37 (0, 0)) (bs_) hb); replace BK160 := Aside0.mk (blk_below (g := gb160) (o := .cells #[.int .u32 x161000_1, .int .i32 x161001_1, .int .u32 x161002_1, .int .u8 x161003_1, .int .u8 x161004_1, .int .u8 x161005_1, .int .u8 x161006_1, .int .u8 x161007_1] 128 (0, 0)) (bs_) hb); replace BK161 := Aside0.mk (blk_below (g := gb161) (o := .cells #[.int .u8 x162000_1, .int .u32 ((t172) % 4294967296), .string (⟨#[]⟩ : ByteArray), .int .u32 ((t175) % 4294967296)] 37 (0, 0)) (bs_) hb); replace BK171 := Aside0.mk (blk_below (g := gb171) (o := .cells #[.string t176, .bool false] 156 (0, 0)) (bs_) hb); replace HB := hb_ hb; (try clear hb); (try clear hb2); (try clear hk); (try clear hi); have hnb83 := NB171_159.out; have hnc83 := NB159_171.out; have hnb84 := NB171_160.out; have hnc84 := NB160_171.out; obtain ⟨hcz85_0, hcz85_1⟩ := cl2_ BK171; obtain ⟨hfz85_0, hfz85_1⟩ := fz2_ BK171; have hnb86 := NB159_160.out; have hnc86 := NB160_159.out; obtain ⟨hcz87_0, hcz87_1, hcz87_2, hcz87_3⟩ := cl4_ BK159; obtain ⟨hfz87_0, hfz87_1, hfz87_2, hfz87_3⟩ := fz4_ BK159))
     refine bodyPost_ret (results_ct rfl _ _ gb159 37 #[.int .u8 0, .int .u32 0, .string (⟨#[]⟩ : ByteArray), .int .u32 0] (0, 0) _ rfl (bs_) Tryz.underlying37 rfl (by kernel_rfl)) rfl ?_
     exact ⟨by first | rfl | (simp [errW_none, errW_some] <;> rfl) | (simp [*, errW_none, errW_some] <;> rfl), bel_⟩
    rw [if_neg c25] at H
    have c25b0 : (x162000_1 == 3) = false := beq_eq_false_iff_ne.mpr c25
    have c25b1 : (x162000_1 != 3) = true := bne_iff_ne.mpr c25
    replace H := Option.bind_eq_some_iff.mp H
    obtain ⟨⟨t180, t181⟩, A880, H⟩ := H
    replace H : (if t174 = true then (some (0, 0, (⟨#[]⟩ : ByteArray), 0, 4)) else (if t181 = 0 then (if t180.toList = a0.toList then (some (x162000_1, (t172) % 4294967296, t173, 0, 0)) else (some (0, 0, (⟨#[]⟩ : ByteArray), 0, 4))) else (some (0, 0, (⟨#[]⟩ : ByteArray), 0, 4)))) = some (r1, r2, r3, r4, r5) := H
    have A88 := Aside0.mk A880
    clear A880
    by_cases c89 : t174 = true
    ·subst c89
     have H1 : (some (0, 0, (⟨#[]⟩ : ByteArray), 0, 4)) = some (r1, r2, r3, r4, r5) := by rw [if_pos rfl] at H; exact H
     clear H
     have H := H1
     clear H1
     simp only [Option.some.injEq, Prod.mk.injEq] at H
     obtain ⟨rfl, rfl, rfl, rfl, rfl⟩ := H
     go_wp2_with (first | ((with_reducible refine gate_dst (N := 29) rfl ?_); refine bx_ (N := 29) (cs := #[.string (a0.extract 1 a0.size), .bool false]) (t := 156) ?_; intro gb171 hg w90 hbox hb; have BK171 := Aside0.mk (hbox); have GW171 := ge_ hg; have GE171 := ge_ hg; have NB159_171 := nl_ BK159 hg; have NB171_159 := ng_ BK159 hg; have NB160_171 := nl_ BK160 hg; have NB171_160 := ng_ BK160 hg; have NB161_171 := nl_ BK161 hg; have NB171_161 := ng_ BK161 hg; replace BK159 := kb_ BK159 hb; replace BK160 := kb_ BK160 hb; replace BK161 := kb_ BK161 hb; replace HB := hb_ hb; clear hb hbox hg) | ((with_reducible refine gate_callee (f := 68) rfl ?_); refine gl_ (some 31) Tryz.func68 #[.pointer (some ⟨gb171, 0, none⟩), .int .i64 4] ?_; (with_reducible refine (inode_taker_number.calls k1 gb171 (a0.extract 1 a0.size) false 4 t172 t173 true w _ ?side1 ?side2 A24.out).mono ?_); (case side1 => exact ⟨(bk_ BK171), GE171.out⟩); (case side2 => repeat (first | (with_reducible first | exact HB.out | apply below_alloc | apply pw_below_drewN | apply below_drew1 | refine below_set ?_ GE159.out | refine below_set ?_ GE160.out | refine below_set ?_ GE161.out | refine below_set ?_ GE171.out) | exact HB.out)); rintro e w91 ⟨rfl, hi, hb, hk⟩; refine ⟨_, rfl, ?_⟩; replace BK159 := Aside0.mk (KeepBut.blk hk (g' := gb159) (o := .cells #[.int .u8 0, .int .u32 0, .string (⟨#[]⟩ : ByteArray), .int .u32 0] 37 (0, 0)) (bk_ BK159) NB159_171.out (by simp)); replace BK160 := Aside0.mk (KeepBut.blk hk (g' := gb160) (o := .cells #[.int .u32 x161000_1, .int .i32 x161001_1, .int .u32 x161002_1, .int .u8 x161003_1, .int .u8 x161004_1, .int .u8 x161005_1, .int .u8 x161006_1, .int .u8 x161007_1] 128 (0, 0)) (bk_ BK160) NB160_171.out (by simp)); replace BK161 := Aside0.mk (KeepBut.blk hk (g' := gb161) (o := .cells #[.int .u8 x162000_1, .int .u32 0, .string (⟨#[]⟩ : ByteArray), .int .u32 0] 37 (0, 0)) (bk_ BK161) NB161_171.out (by simp)); replace HB := Aside0.mk (hb); replace BK171 := Aside0.mk (hi.1); (try clear hb); (try clear hb2); (try clear hk); (try clear hi); have hnb92 := NB161_159.out; have hnc92 := NB159_161.out; have hnb93 := NB161_160.out; have hnc93 := NB160_161.out; have hnb94 := NB161_171.out; have hnc94 := NB171_161.out; obtain ⟨hcz95_0, hcz95_1, hcz95_2, hcz95_3⟩ := cl4_ BK161; obtain ⟨hfz95_0, hfz95_1, hfz95_2, hfz95_3⟩ := fz4_ BK161; have hnb96 := NB171_159.out; have hnc96 := NB159_171.out; have hnb97 := NB171_160.out; have hnc97 := NB160_171.out; obtain ⟨hcz98_0, hcz98_1⟩ := cl2_ BK171; obtain ⟨hfz98_0, hfz98_1⟩ := fz2_ BK171) | ((with_reducible refine gate_callee (f := 7) rfl ?_); refine gl_ (some 48) Tryz.func7 #[.agg #[.int .u8 x162000_1, .int .u32 ((t172) % 4294967296), .string t173, .int .u32 0]] ?_; (with_reducible refine (inode_Key.calls k1 x162000_1 ((t172) % 4294967296) t173 0 t180 t181 _ A88.out).mono ?_); rintro e w99 ⟨rfl, hb⟩; refine ⟨_, rfl, ?_⟩; replace BK159 := Aside0.mk (blk_below (g := gb159) (o := .cells #[.int .u8 0, .int .u32 0, .string (⟨#[]⟩ : ByteArray), .int .u32 0] 37 (0, 0)) (bs_) hb); replace BK160 := Aside0.mk (blk_below (g := gb160) (o := .cells #[.int .u32 x161000_1, .int .i32 x161001_1, .int .u32 x161002_1, .int .u8 x161003_1, .int .u8 x161004_1, .int .u8 x161005_1, .int .u8 x161006_1, .int .u8 x161007_1] 128 (0, 0)) (bs_) hb); replace BK161 := Aside0.mk (blk_below (g := gb161) (o := .cells #[.int .u8 x162000_1, .int .u32 ((t172) % 4294967296), .string t173, .int .u32 0] 37 (0, 0)) (bs_) hb); replace BK171 := Aside0.mk (blk_below (g := gb171) (o := .cells #[.string t173, .bool true] 156 (0, 0)) (bs_) hb); replace HB := hb_ hb; (try clear hb); (try clear hb2); (try clear hk); (try clear hi); obtain ⟨hcz100_0, hcz100_1⟩ := cl2_ BK171; obtain ⟨hfz100_0, hfz100_1⟩ := fz2_ BK171; have hnb101 := NB159_160.out; have hnc101 := NB160_159.out; obtain ⟨hcz102_0, hcz102_1, hcz102_2, hcz102_3⟩ := cl4_ BK159; obtain ⟨hfz102_0, hfz102_1, hfz102_2, hfz102_3⟩ := fz4_ BK159))
     refine bodyPost_ret (results_ct rfl _ _ gb159 37 #[.int .u8 0, .int .u32 0, .string (⟨#[]⟩ : ByteArray), .int .u32 0] (0, 0) _ rfl (bs_) Tryz.underlying37 rfl (by kernel_rfl)) rfl ?_
     exact ⟨by first | rfl | (simp [errW_none, errW_some] <;> rfl) | (simp [*, errW_none, errW_some] <;> rfl), bel_⟩
    replace c89 := Bool.eq_false_iff.mpr c89
    subst c89
    have H1 : (if t181 = 0 then (if t180.toList = a0.toList then (some (x162000_1, (t172) % 4294967296, t173, 0, 0)) else (some (0, 0, (⟨#[]⟩ : ByteArray), 0, 4))) else (some (0, 0, (⟨#[]⟩ : ByteArray), 0, 4))) = some (r1, r2, r3, r4, r5) := by rw [if_neg (show ¬ (false = true) by decide)] at H; exact H
    clear H
    have H := H1
    clear H1
    by_cases c103 : t181 = 0
    ·rw [if_pos c103] at H
     have c103b0 : (t181 == 0) = true := beq_iff_eq.mpr c103
     have c103b1 : (t181 != 0) = false := bne_eq_false_iff_eq.mpr c103
     clear c103
     by_cases c104 : t180.toList = a0.toList
     ·rw [if_pos c104] at H
      have c104b0 : (t180.toList == a0.toList) = true := beq_iff_eq.mpr c104
      have c104b1 : (t180.toList != a0.toList) = false := bne_eq_false_iff_eq.mpr c104
      clear c104
      simp only [Option.some.injEq, Prod.mk.injEq] at H
      obtain ⟨rfl, rfl, rfl, rfl, rfl⟩ := H
      go_wp2_with (first | ((with_reducible refine gate_dst (N := 29) rfl ?_); refine bx_ (N := 29) (cs := #[.string (a0.extract 1 a0.size), .bool false]) (t := 156) ?_; intro gb171 hg w105 hbox hb; have BK171 := Aside0.mk (hbox); have GW171 := ge_ hg; have GE171 := ge_ hg; have NB159_171 := nl_ BK159 hg; have NB171_159 := ng_ BK159 hg; have NB160_171 := nl_ BK160 hg; have NB171_160 := ng_ BK160 hg; have NB161_171 := nl_ BK161 hg; have NB171_161 := ng_ BK161 hg; replace BK159 := kb_ BK159 hb; replace BK160 := kb_ BK160 hb; replace BK161 := kb_ BK161 hb; replace HB := hb_ hb; clear hb hbox hg) | ((with_reducible refine gate_callee (f := 68) rfl ?_); refine gl_ (some 31) Tryz.func68 #[.pointer (some ⟨gb171, 0, none⟩), .int .i64 4] ?_; (with_reducible refine (inode_taker_number.calls k1 gb171 (a0.extract 1 a0.size) false 4 t172 t173 false w _ ?side1 ?side2 A24.out).mono ?_); (case side1 => exact ⟨(bk_ BK171), GE171.out⟩); (case side2 => repeat (first | (with_reducible first | exact HB.out | apply below_alloc | apply pw_below_drewN | apply below_drew1 | refine below_set ?_ GE159.out | refine below_set ?_ GE160.out | refine below_set ?_ GE161.out | refine below_set ?_ GE171.out) | exact HB.out)); rintro e w106 ⟨rfl, hi, hb, hk⟩; refine ⟨_, rfl, ?_⟩; replace BK159 := Aside0.mk (KeepBut.blk hk (g' := gb159) (o := .cells #[.int .u8 0, .int .u32 0, .string (⟨#[]⟩ : ByteArray), .int .u32 0] 37 (0, 0)) (bk_ BK159) NB159_171.out (by simp)); replace BK160 := Aside0.mk (KeepBut.blk hk (g' := gb160) (o := .cells #[.int .u32 x161000_1, .int .i32 x161001_1, .int .u32 x161002_1, .int .u8 x161003_1, .int .u8 x161004_1, .int .u8 x161005_1, .int .u8 x161006_1, .int .u8 x161007_1] 128 (0, 0)) (bk_ BK160) NB160_171.out (by simp)); replace BK161 := Aside0.mk (KeepBut.blk hk (g' := gb161) (o := .cells #[.int .u8 x162000_1, .int .u32 0, .string (⟨#[]⟩ : ByteArray), .int .u32 0] 37 (0, 0)) (bk_ BK161) NB161_171.out (by simp)); replace HB := Aside0.mk (hb); replace BK171 := Aside0.mk (hi.1); (try clear hb); (try clear hb2); (try clear hk); (try clear hi); have hnb107 := NB161_159.out; have hnc107 := NB159_161.out; have hnb108 := NB161_160.out; have hnc108 := NB160_161.out; have hnb109 := NB161_171.out; have hnc109 := NB171_161.out; obtain ⟨hcz110_0, hcz110_1, hcz110_2, hcz110_3⟩ := cl4_ BK161; obtain ⟨hfz110_0, hfz110_1, hfz110_2, hfz110_3⟩ := fz4_ BK161; have hnb111 := NB171_159.out; have hnc111 := NB159_171.out; have hnb112 := NB171_160.out; have hnc112 := NB160_171.out; obtain ⟨hcz113_0, hcz113_1⟩ := cl2_ BK171; obtain ⟨hfz113_0, hfz113_1⟩ := fz2_ BK171) | ((with_reducible refine gate_callee (f := 7) rfl ?_); refine gl_ (some 48) Tryz.func7 #[.agg #[.int .u8 x162000_1, .int .u32 ((t172) % 4294967296), .string t173, .int .u32 0]] ?_; (with_reducible refine (inode_Key.calls k1 x162000_1 ((t172) % 4294967296) t173 0 t180 t181 _ A88.out).mono ?_); rintro e w114 ⟨rfl, hb⟩; refine ⟨_, rfl, ?_⟩; replace BK159 := Aside0.mk (blk_below (g := gb159) (o := .cells #[.int .u8 0, .int .u32 0, .string (⟨#[]⟩ : ByteArray), .int .u32 0] 37 (0, 0)) (bs_) hb); replace BK160 := Aside0.mk (blk_below (g := gb160) (o := .cells #[.int .u32 x161000_1, .int .i32 x161001_1, .int .u32 x161002_1, .int .u8 x161003_1, .int .u8 x161004_1, .int .u8 x161005_1, .int .u8 x161006_1, .int .u8 x161007_1] 128 (0, 0)) (bs_) hb); replace BK161 := Aside0.mk (blk_below (g := gb161) (o := .cells #[.int .u8 x162000_1, .int .u32 ((t172) % 4294967296), .string t173, .int .u32 0] 37 (0, 0)) (bs_) hb); replace BK171 := Aside0.mk (blk_below (g := gb171) (o := .cells #[.string t173, .bool false] 156 (0, 0)) (bs_) hb); replace HB := hb_ hb; (try clear hb); (try clear hb2); (try clear hk); (try clear hi); obtain ⟨hcz115_0, hcz115_1⟩ := cl2_ BK171; obtain ⟨hfz115_0, hfz115_1⟩ := fz2_ BK171; obtain ⟨hcz116_0, hcz116_1, hcz116_2, hcz116_3⟩ := cl4_ BK161; obtain ⟨hfz116_0, hfz116_1, hfz116_2, hfz116_3⟩ := fz4_ BK161; have hnb117 := NB159_160.out; have hnc117 := NB160_159.out; obtain ⟨hcz118_0, hcz118_1, hcz118_2, hcz118_3⟩ := cl4_ BK159; obtain ⟨hfz118_0, hfz118_1, hfz118_2, hfz118_3⟩ := fz4_ BK159))
      refine bodyPost_ret (results_ct rfl _ _ gb159 37 #[.int .u8 x162000_1, .int .u32 ((t172) % 4294967296), .string t173, .int .u32 0] (0, 0) _ rfl (bs_) Tryz.underlying37 rfl (by kernel_rfl)) rfl ?_
      exact ⟨by first | rfl | (simp [errW_none, errW_some] <;> rfl) | (simp [*, errW_none, errW_some] <;> rfl), bel_⟩
     rw [if_neg c104] at H
     have c104b0 : (t180.toList == a0.toList) = false := beq_eq_false_iff_ne.mpr c104
     have c104b1 : (t180.toList != a0.toList) = true := bne_iff_ne.mpr c104
     simp only [Option.some.injEq, Prod.mk.injEq] at H
     obtain ⟨rfl, rfl, rfl, rfl, rfl⟩ := H
     go_wp2_with (first | ((with_reducible refine gate_dst (N := 29) rfl ?_); refine bx_ (N := 29) (cs := #[.string (a0.extract 1 a0.size), .bool false]) (t := 156) ?_; intro gb171 hg w119 hbox hb; have BK171 := Aside0.mk (hbox); have GW171 := ge_ hg; have GE171 := ge_ hg; have NB159_171 := nl_ BK159 hg; have NB171_159 := ng_ BK159 hg; have NB160_171 := nl_ BK160 hg; have NB171_160 := ng_ BK160 hg; have NB161_171 := nl_ BK161 hg; have NB171_161 := ng_ BK161 hg; replace BK159 := kb_ BK159 hb; replace BK160 := kb_ BK160 hb; replace BK161 := kb_ BK161 hb; replace HB := hb_ hb; clear hb hbox hg) | ((with_reducible refine gate_callee (f := 68) rfl ?_); refine gl_ (some 31) Tryz.func68 #[.pointer (some ⟨gb171, 0, none⟩), .int .i64 4] ?_; (with_reducible refine (inode_taker_number.calls k1 gb171 (a0.extract 1 a0.size) false 4 t172 t173 false w _ ?side1 ?side2 A24.out).mono ?_); (case side1 => exact ⟨(bk_ BK171), GE171.out⟩); (case side2 => repeat (first | (with_reducible first | exact HB.out | apply below_alloc | apply pw_below_drewN | apply below_drew1 | refine below_set ?_ GE159.out | refine below_set ?_ GE160.out | refine below_set ?_ GE161.out | refine below_set ?_ GE171.out) | exact HB.out)); rintro e w120 ⟨rfl, hi, hb, hk⟩; refine ⟨_, rfl, ?_⟩; replace BK159 := Aside0.mk (KeepBut.blk hk (g' := gb159) (o := .cells #[.int .u8 0, .int .u32 0, .string (⟨#[]⟩ : ByteArray), .int .u32 0] 37 (0, 0)) (bk_ BK159) NB159_171.out (by simp)); replace BK160 := Aside0.mk (KeepBut.blk hk (g' := gb160) (o := .cells #[.int .u32 x161000_1, .int .i32 x161001_1, .int .u32 x161002_1, .int .u8 x161003_1, .int .u8 x161004_1, .int .u8 x161005_1, .int .u8 x161006_1, .int .u8 x161007_1] 128 (0, 0)) (bk_ BK160) NB160_171.out (by simp)); replace BK161 := Aside0.mk (KeepBut.blk hk (g' := gb161) (o := .cells #[.int .u8 x162000_1, .int .u32 0, .string (⟨#[]⟩ : ByteArray), .int .u32 0] 37 (0, 0)) (bk_ BK161) NB161_171.out (by simp)); replace HB := Aside0.mk (hb); replace BK171 := Aside0.mk (hi.1); (try clear hb); (try clear hb2); (try clear hk); (try clear hi); have hnb121 := NB161_159.out; have hnc121 := NB159_161.out; have hnb122 := NB161_160.out; have hnc122 := NB160_161.out; have hnb123 := NB161_171.out; have hnc123 := NB171_161.out; obtain ⟨hcz124_0, hcz124_1, hcz124_2, hcz124_3⟩ := cl4_ BK161; obtain ⟨hfz124_0, hfz124_1, hfz124_2, hfz124_3⟩ := fz4_ BK161; have hnb125 := NB171_159.out; have hnc125 := NB159_171.out; have hnb126 := NB171_160.out; have hnc126 := NB160_171.out; obtain ⟨hcz127_0, hcz127_1⟩ := cl2_ BK171; obtain ⟨hfz127_0, hfz127_1⟩ := fz2_ BK171) | ((with_reducible refine gate_callee (f := 7) rfl ?_); refine gl_ (some 48) Tryz.func7 #[.agg #[.int .u8 x162000_1, .int .u32 ((t172) % 4294967296), .string t173, .int .u32 0]] ?_; (with_reducible refine (inode_Key.calls k1 x162000_1 ((t172) % 4294967296) t173 0 t180 t181 _ A88.out).mono ?_); rintro e w128 ⟨rfl, hb⟩; refine ⟨_, rfl, ?_⟩; replace BK159 := Aside0.mk (blk_below (g := gb159) (o := .cells #[.int .u8 0, .int .u32 0, .string (⟨#[]⟩ : ByteArray), .int .u32 0] 37 (0, 0)) (bs_) hb); replace BK160 := Aside0.mk (blk_below (g := gb160) (o := .cells #[.int .u32 x161000_1, .int .i32 x161001_1, .int .u32 x161002_1, .int .u8 x161003_1, .int .u8 x161004_1, .int .u8 x161005_1, .int .u8 x161006_1, .int .u8 x161007_1] 128 (0, 0)) (bs_) hb); replace BK161 := Aside0.mk (blk_below (g := gb161) (o := .cells #[.int .u8 x162000_1, .int .u32 ((t172) % 4294967296), .string t173, .int .u32 0] 37 (0, 0)) (bs_) hb); replace BK171 := Aside0.mk (blk_below (g := gb171) (o := .cells #[.string t173, .bool false] 156 (0, 0)) (bs_) hb); replace HB := hb_ hb; (try clear hb); (try clear hb2); (try clear hk); (try clear hi); obtain ⟨hcz129_0, hcz129_1⟩ := cl2_ BK171; obtain ⟨hfz129_0, hfz129_1⟩ := fz2_ BK171; have hnb130 := NB159_160.out; have hnc130 := NB160_159.out; obtain ⟨hcz131_0, hcz131_1, hcz131_2, hcz131_3⟩ := cl4_ BK159; obtain ⟨hfz131_0, hfz131_1, hfz131_2, hfz131_3⟩ := fz4_ BK159))
     refine bodyPost_ret (results_ct rfl _ _ gb159 37 #[.int .u8 0, .int .u32 0, .string (⟨#[]⟩ : ByteArray), .int .u32 0] (0, 0) _ rfl (bs_) Tryz.underlying37 rfl (by kernel_rfl)) rfl ?_
     exact ⟨by first | rfl | (simp [errW_none, errW_some] <;> rfl) | (simp [*, errW_none, errW_some] <;> rfl), bel_⟩
    rw [if_neg c103] at H
    have c103b0 : (t181 == 0) = false := beq_eq_false_iff_ne.mpr c103
    have c103b1 : (t181 != 0) = true := bne_iff_ne.mpr c103
    simp only [Option.some.injEq, Prod.mk.injEq] at H
    obtain ⟨rfl, rfl, rfl, rfl, rfl⟩ := H
    go_wp2_with (first | ((with_reducible refine gate_dst (N := 29) rfl ?_); refine bx_ (N := 29) (cs := #[.string (a0.extract 1 a0.size), .bool false]) (t := 156) ?_; intro gb171 hg w132 hbox hb; have BK171 := Aside0.mk (hbox); have GW171 := ge_ hg; have GE171 := ge_ hg; have NB159_171 := nl_ BK159 hg; have NB171_159 := ng_ BK159 hg; have NB160_171 := nl_ BK160 hg; have NB171_160 := ng_ BK160 hg; have NB161_171 := nl_ BK161 hg; have NB171_161 := ng_ BK161 hg; replace BK159 := kb_ BK159 hb; replace BK160 := kb_ BK160 hb; replace BK161 := kb_ BK161 hb; replace HB := hb_ hb; clear hb hbox hg) | ((with_reducible refine gate_callee (f := 68) rfl ?_); refine gl_ (some 31) Tryz.func68 #[.pointer (some ⟨gb171, 0, none⟩), .int .i64 4] ?_; (with_reducible refine (inode_taker_number.calls k1 gb171 (a0.extract 1 a0.size) false 4 t172 t173 false w _ ?side1 ?side2 A24.out).mono ?_); (case side1 => exact ⟨(bk_ BK171), GE171.out⟩); (case side2 => repeat (first | (with_reducible first | exact HB.out | apply below_alloc | apply pw_below_drewN | apply below_drew1 | refine below_set ?_ GE159.out | refine below_set ?_ GE160.out | refine below_set ?_ GE161.out | refine below_set ?_ GE171.out) | exact HB.out)); rintro e w133 ⟨rfl, hi, hb, hk⟩; refine ⟨_, rfl, ?_⟩; replace BK159 := Aside0.mk (KeepBut.blk hk (g' := gb159) (o := .cells #[.int .u8 0, .int .u32 0, .string (⟨#[]⟩ : ByteArray), .int .u32 0] 37 (0, 0)) (bk_ BK159) NB159_171.out (by simp)); replace BK160 := Aside0.mk (KeepBut.blk hk (g' := gb160) (o := .cells #[.int .u32 x161000_1, .int .i32 x161001_1, .int .u32 x161002_1, .int .u8 x161003_1, .int .u8 x161004_1, .int .u8 x161005_1, .int .u8 x161006_1, .int .u8 x161007_1] 128 (0, 0)) (bk_ BK160) NB160_171.out (by simp)); replace BK161 := Aside0.mk (KeepBut.blk hk (g' := gb161) (o := .cells #[.int .u8 x162000_1, .int .u32 0, .string (⟨#[]⟩ : ByteArray), .int .u32 0] 37 (0, 0)) (bk_ BK161) NB161_171.out (by simp)); replace HB := Aside0.mk (hb); replace BK171 := Aside0.mk (hi.1); (try clear hb); (try clear hb2); (try clear hk); (try clear hi); have hnb134 := NB161_159.out; have hnc134 := NB159_161.out; have hnb135 := NB161_160.out; have hnc135 := NB160_161.out; have hnb136 := NB161_171.out; have hnc136 := NB171_161.out; obtain ⟨hcz137_0, hcz137_1, hcz137_2, hcz137_3⟩ := cl4_ BK161; obtain ⟨hfz137_0, hfz137_1, hfz137_2, hfz137_3⟩ := fz4_ BK161; have hnb138 := NB171_159.out; have hnc138 := NB159_171.out; have hnb139 := NB171_160.out; have hnc139 := NB160_171.out; obtain ⟨hcz140_0, hcz140_1⟩ := cl2_ BK171; obtain ⟨hfz140_0, hfz140_1⟩ := fz2_ BK171) | ((with_reducible refine gate_callee (f := 7) rfl ?_); refine gl_ (some 48) Tryz.func7 #[.agg #[.int .u8 x162000_1, .int .u32 ((t172) % 4294967296), .string t173, .int .u32 0]] ?_; (with_reducible refine (inode_Key.calls k1 x162000_1 ((t172) % 4294967296) t173 0 t180 t181 _ A88.out).mono ?_); rintro e w141 ⟨rfl, hb⟩; refine ⟨_, rfl, ?_⟩; replace BK159 := Aside0.mk (blk_below (g := gb159) (o := .cells #[.int .u8 0, .int .u32 0, .string (⟨#[]⟩ : ByteArray), .int .u32 0] 37 (0, 0)) (bs_) hb); replace BK160 := Aside0.mk (blk_below (g := gb160) (o := .cells #[.int .u32 x161000_1, .int .i32 x161001_1, .int .u32 x161002_1, .int .u8 x161003_1, .int .u8 x161004_1, .int .u8 x161005_1, .int .u8 x161006_1, .int .u8 x161007_1] 128 (0, 0)) (bs_) hb); replace BK161 := Aside0.mk (blk_below (g := gb161) (o := .cells #[.int .u8 x162000_1, .int .u32 ((t172) % 4294967296), .string t173, .int .u32 0] 37 (0, 0)) (bs_) hb); replace BK171 := Aside0.mk (blk_below (g := gb171) (o := .cells #[.string t173, .bool false] 156 (0, 0)) (bs_) hb); replace HB := hb_ hb; (try clear hb); (try clear hb2); (try clear hk); (try clear hi); obtain ⟨hcz142_0, hcz142_1⟩ := cl2_ BK171; obtain ⟨hfz142_0, hfz142_1⟩ := fz2_ BK171; have hnb143 := NB159_160.out; have hnc143 := NB160_159.out; obtain ⟨hcz144_0, hcz144_1, hcz144_2, hcz144_3⟩ := cl4_ BK159; obtain ⟨hfz144_0, hfz144_1, hfz144_2, hfz144_3⟩ := fz4_ BK159))
    refine bodyPost_ret (results_ct rfl _ _ gb159 37 #[.int .u8 0, .int .u32 0, .string (⟨#[]⟩ : ByteArray), .int .u32 0] (0, 0) _ rfl (bs_) Tryz.underlying37 rfl (by kernel_rfl)) rfl ?_
    exact ⟨by first | rfl | (simp [errW_none, errW_some] <;> rfl) | (simp [*, errW_none, errW_some] <;> rfl), bel_⟩
   rw [if_neg c23] at H
   exact absurd H (by simp)
def inode_Check.f (a0_0 : Int) (a0_1 : Int) (a0_2 : Int) (a0_3 : Int) (a0_4 : ByteArray) : Option (Int) := if a0_0 = 1 then (if a0_2 = 1 then (if a0_3 = 0 then (if (a0_4.toList = ([] : List UInt8)) then (some 0) else (some 4)) else (some 4)) else (some 4)) else (if a0_0 = 2 then (if a0_2 > 0 then (if a0_3 ≤ 65536 then (if (a0_4.toList = ([] : List UInt8)) then (some 0) else (some 4)) else (some 4)) else (some 4)) else (if a0_0 = 3 then (if a0_2 > 0 then (if a0_4.toList = ([] : List UInt8) then (some 4) else (if (a0_4.size : Int) ≤ 64 then ((strings_Contains.f a0_4 (⟨#[0]⟩ : ByteArray)).bind fun t214 => (if t214 = true then (some 4) else (if ((wrap64 (a0_3)) = (a0_4.size : Int)) then (some 0) else (some 4)))) else (some 4))) else (some 4)) else (some 4)))
set_option maxHeartbeats 8000000 in
set_option maxRecDepth 100000 in
theorem inode_Check.calls (a0_0 : Int) (a0_1 : Int) (a0_2 : Int) (a0_3 : Int) (a0_4 : ByteArray) (r : Int) (w : World) (h : inode_Check.f a0_0 a0_1 a0_2 a0_3 a0_4 = some r) :
  Calls Tryz.prog 19 #[.agg #[.int .u8 a0_0, .int .u16 a0_1, .int .u32 a0_2, .int .u32 a0_3, .string a0_4]] w fun e w' => e = .returned (.int .i64 r) ∧ Below w.heap.size w w' := by
 have hu33 := Tryz.underlying33
 have HB := Aside0.mk (Below.refl w.heap.size w)
 have H : (if a0_0 = 1 then (if a0_2 = 1 then (if a0_3 = 0 then (if (a0_4.toList = ([] : List UInt8)) then (some 0) else (some 4)) else (some 4)) else (some 4)) else (if a0_0 = 2 then (if a0_2 > 0 then (if a0_3 ≤ 65536 then (if (a0_4.toList = ([] : List UInt8)) then (some 0) else (some 4)) else (some 4)) else (some 4)) else (if a0_0 = 3 then (if a0_2 > 0 then (if a0_4.toList = ([] : List UInt8) then (some 4) else (if (a0_4.size : Int) ≤ 64 then ((strings_Contains.f a0_4 (⟨#[0]⟩ : ByteArray)).bind fun t214 => (if t214 = true then (some 4) else (if ((wrap64 (a0_3)) = (a0_4.size : Int)) then (some 0) else (some 4)))) else (some 4))) else (some 4)) else (some 4)))) = some r := h
 clear h
 by_cases c2 : a0_0 = 1
 ·rw [if_pos c2] at H
  have c2b0 : (a0_0 == 1) = true := beq_iff_eq.mpr c2
  have c2b1 : (a0_0 != 1) = false := bne_eq_false_iff_eq.mpr c2
  clear c2
  by_cases c3 : a0_2 = 1
  ·rw [if_pos c3] at H
   have c3b0 : (a0_2 == 1) = true := beq_iff_eq.mpr c3
   have c3b1 : (a0_2 != 1) = false := bne_eq_false_iff_eq.mpr c3
   clear c3
   by_cases c4 : a0_3 = 0
   ·rw [if_pos c4] at H
    have c4b0 : (a0_3 == 0) = true := beq_iff_eq.mpr c4
    have c4b1 : (a0_3 != 0) = false := bne_eq_false_iff_eq.mpr c4
    clear c4
    by_cases c5 : (a0_4.toList = ([] : List UInt8))
    ·rw [if_pos c5] at H
     have c5b0 : (a0_4.toList == ([] : List UInt8)) = true := beq_iff_eq.mpr c5
     have c5b1 : (a0_4.toList != ([] : List UInt8)) = false := bne_eq_false_iff_eq.mpr c5
     clear c5
     obtain rfl := Option.some.inj H
     go_enter Tryz.func19, Tryz.ntmps19
     go_wp2_with (first | ((with_reducible refine gate_dst (N := 1) rfl ?_); (try (refine gate_guard (by rfl) ?_; dsimp only)); refine bx_ (N := 1) (cs := #[.int .u8 a0_0, .int .u16 a0_1, .int .u32 a0_2, .int .u32 a0_3, .string a0_4]) (t := 33) ?_; intro gb213 hg w6 hbox hb; have BK213 := Aside0.mk (hbox); have GW213 := ge_ hg; have GE213 := ge_ hg; replace HB := hb_ hb; clear hb hbox hg; obtain ⟨hcz7_0, hcz7_1, hcz7_2, hcz7_3, hcz7_4⟩ := cl5_ BK213; obtain ⟨hfz7_0, hfz7_1, hfz7_2, hfz7_3, hfz7_4⟩ := fz5_ BK213))
     go_ret
     exact ⟨by first | rfl | (simp [errW_none, errW_some] <;> rfl) | (simp [*, errW_none, errW_some] <;> rfl), bel_⟩
    rw [if_neg c5] at H
    have c5b0 : (a0_4.toList == ([] : List UInt8)) = false := beq_eq_false_iff_ne.mpr c5
    have c5b1 : (a0_4.toList != ([] : List UInt8)) = true := bne_iff_ne.mpr c5
    obtain rfl := Option.some.inj H
    go_enter Tryz.func19, Tryz.ntmps19
    go_wp2_with (first | ((with_reducible refine gate_dst (N := 1) rfl ?_); (try (refine gate_guard (by rfl) ?_; dsimp only)); refine bx_ (N := 1) (cs := #[.int .u8 a0_0, .int .u16 a0_1, .int .u32 a0_2, .int .u32 a0_3, .string a0_4]) (t := 33) ?_; intro gb213 hg w8 hbox hb; have BK213 := Aside0.mk (hbox); have GW213 := ge_ hg; have GE213 := ge_ hg; replace HB := hb_ hb; clear hb hbox hg; obtain ⟨hcz9_0, hcz9_1, hcz9_2, hcz9_3, hcz9_4⟩ := cl5_ BK213; obtain ⟨hfz9_0, hfz9_1, hfz9_2, hfz9_3, hfz9_4⟩ := fz5_ BK213))
    go_ret
    exact ⟨by first | rfl | (simp [errW_none, errW_some] <;> rfl) | (simp [*, errW_none, errW_some] <;> rfl), bel_⟩
   rw [if_neg c4] at H
   have c4b0 : (a0_3 == 0) = false := beq_eq_false_iff_ne.mpr c4
   have c4b1 : (a0_3 != 0) = true := bne_iff_ne.mpr c4
   obtain rfl := Option.some.inj H
   go_enter Tryz.func19, Tryz.ntmps19
   go_wp2_with (first | ((with_reducible refine gate_dst (N := 1) rfl ?_); (try (refine gate_guard (by rfl) ?_; dsimp only)); refine bx_ (N := 1) (cs := #[.int .u8 a0_0, .int .u16 a0_1, .int .u32 a0_2, .int .u32 a0_3, .string a0_4]) (t := 33) ?_; intro gb213 hg w10 hbox hb; have BK213 := Aside0.mk (hbox); have GW213 := ge_ hg; have GE213 := ge_ hg; replace HB := hb_ hb; clear hb hbox hg; obtain ⟨hcz11_0, hcz11_1, hcz11_2, hcz11_3, hcz11_4⟩ := cl5_ BK213; obtain ⟨hfz11_0, hfz11_1, hfz11_2, hfz11_3, hfz11_4⟩ := fz5_ BK213))
   go_ret
   exact ⟨by first | rfl | (simp [errW_none, errW_some] <;> rfl) | (simp [*, errW_none, errW_some] <;> rfl), bel_⟩
  rw [if_neg c3] at H
  have c3b0 : (a0_2 == 1) = false := beq_eq_false_iff_ne.mpr c3
  have c3b1 : (a0_2 != 1) = true := bne_iff_ne.mpr c3
  obtain rfl := Option.some.inj H
  go_enter Tryz.func19, Tryz.ntmps19
  go_wp2_with (first | ((with_reducible refine gate_dst (N := 1) rfl ?_); (try (refine gate_guard (by rfl) ?_; dsimp only)); refine bx_ (N := 1) (cs := #[.int .u8 a0_0, .int .u16 a0_1, .int .u32 a0_2, .int .u32 a0_3, .string a0_4]) (t := 33) ?_; intro gb213 hg w12 hbox hb; have BK213 := Aside0.mk (hbox); have GW213 := ge_ hg; have GE213 := ge_ hg; replace HB := hb_ hb; clear hb hbox hg; obtain ⟨hcz13_0, hcz13_1, hcz13_2, hcz13_3, hcz13_4⟩ := cl5_ BK213; obtain ⟨hfz13_0, hfz13_1, hfz13_2, hfz13_3, hfz13_4⟩ := fz5_ BK213))
  go_ret
  exact ⟨by first | rfl | (simp [errW_none, errW_some] <;> rfl) | (simp [*, errW_none, errW_some] <;> rfl), bel_⟩
 rw [if_neg c2] at H
 have c2b0 : (a0_0 == 1) = false := beq_eq_false_iff_ne.mpr c2
 have c2b1 : (a0_0 != 1) = true := bne_iff_ne.mpr c2
 by_cases c14 : a0_0 = 2
 ·rw [if_pos c14] at H
  have c14b0 : (a0_0 == 2) = true := beq_iff_eq.mpr c14
  have c14b1 : (a0_0 != 2) = false := bne_eq_false_iff_eq.mpr c14
  clear c14
  by_cases c15 : a0_2 > 0
  ·rw [if_pos c15] at H
   have c15b0 : decide (0 < a0_2) = true := decide_eq_true c15
   clear c15
   by_cases c16 : a0_3 ≤ 65536
   ·rw [if_pos c16] at H
    have c16b0 : decide (a0_3 ≤ 65536) = true := decide_eq_true c16
    clear c16
    by_cases c17 : (a0_4.toList = ([] : List UInt8))
    ·rw [if_pos c17] at H
     have c17b0 : (a0_4.toList == ([] : List UInt8)) = true := beq_iff_eq.mpr c17
     have c17b1 : (a0_4.toList != ([] : List UInt8)) = false := bne_eq_false_iff_eq.mpr c17
     clear c17
     obtain rfl := Option.some.inj H
     go_enter Tryz.func19, Tryz.ntmps19
     go_wp2_with (first | ((with_reducible refine gate_dst (N := 1) rfl ?_); (try (refine gate_guard (by rfl) ?_; dsimp only)); refine bx_ (N := 1) (cs := #[.int .u8 a0_0, .int .u16 a0_1, .int .u32 a0_2, .int .u32 a0_3, .string a0_4]) (t := 33) ?_; intro gb213 hg w18 hbox hb; have BK213 := Aside0.mk (hbox); have GW213 := ge_ hg; have GE213 := ge_ hg; replace HB := hb_ hb; clear hb hbox hg; obtain ⟨hcz19_0, hcz19_1, hcz19_2, hcz19_3, hcz19_4⟩ := cl5_ BK213; obtain ⟨hfz19_0, hfz19_1, hfz19_2, hfz19_3, hfz19_4⟩ := fz5_ BK213))
     go_ret
     exact ⟨by first | rfl | (simp [errW_none, errW_some] <;> rfl) | (simp [*, errW_none, errW_some] <;> rfl), bel_⟩
    rw [if_neg c17] at H
    have c17b0 : (a0_4.toList == ([] : List UInt8)) = false := beq_eq_false_iff_ne.mpr c17
    have c17b1 : (a0_4.toList != ([] : List UInt8)) = true := bne_iff_ne.mpr c17
    obtain rfl := Option.some.inj H
    go_enter Tryz.func19, Tryz.ntmps19
    go_wp2_with (first | ((with_reducible refine gate_dst (N := 1) rfl ?_); (try (refine gate_guard (by rfl) ?_; dsimp only)); refine bx_ (N := 1) (cs := #[.int .u8 a0_0, .int .u16 a0_1, .int .u32 a0_2, .int .u32 a0_3, .string a0_4]) (t := 33) ?_; intro gb213 hg w20 hbox hb; have BK213 := Aside0.mk (hbox); have GW213 := ge_ hg; have GE213 := ge_ hg; replace HB := hb_ hb; clear hb hbox hg; obtain ⟨hcz21_0, hcz21_1, hcz21_2, hcz21_3, hcz21_4⟩ := cl5_ BK213; obtain ⟨hfz21_0, hfz21_1, hfz21_2, hfz21_3, hfz21_4⟩ := fz5_ BK213))
    go_ret
    exact ⟨by first | rfl | (simp [errW_none, errW_some] <;> rfl) | (simp [*, errW_none, errW_some] <;> rfl), bel_⟩
   rw [if_neg c16] at H
   have c16b0 : decide (a0_3 ≤ 65536) = false := decide_eq_false c16
   clear c16
   obtain rfl := Option.some.inj H
   go_enter Tryz.func19, Tryz.ntmps19
   go_wp2_with (first | ((with_reducible refine gate_dst (N := 1) rfl ?_); (try (refine gate_guard (by rfl) ?_; dsimp only)); refine bx_ (N := 1) (cs := #[.int .u8 a0_0, .int .u16 a0_1, .int .u32 a0_2, .int .u32 a0_3, .string a0_4]) (t := 33) ?_; intro gb213 hg w22 hbox hb; have BK213 := Aside0.mk (hbox); have GW213 := ge_ hg; have GE213 := ge_ hg; replace HB := hb_ hb; clear hb hbox hg; obtain ⟨hcz23_0, hcz23_1, hcz23_2, hcz23_3, hcz23_4⟩ := cl5_ BK213; obtain ⟨hfz23_0, hfz23_1, hfz23_2, hfz23_3, hfz23_4⟩ := fz5_ BK213))
   go_ret
   exact ⟨by first | rfl | (simp [errW_none, errW_some] <;> rfl) | (simp [*, errW_none, errW_some] <;> rfl), bel_⟩
  rw [if_neg c15] at H
  have c15b0 : decide (0 < a0_2) = false := decide_eq_false c15
  clear c15
  obtain rfl := Option.some.inj H
  go_enter Tryz.func19, Tryz.ntmps19
  go_wp2_with (first | ((with_reducible refine gate_dst (N := 1) rfl ?_); (try (refine gate_guard (by rfl) ?_; dsimp only)); refine bx_ (N := 1) (cs := #[.int .u8 a0_0, .int .u16 a0_1, .int .u32 a0_2, .int .u32 a0_3, .string a0_4]) (t := 33) ?_; intro gb213 hg w24 hbox hb; have BK213 := Aside0.mk (hbox); have GW213 := ge_ hg; have GE213 := ge_ hg; replace HB := hb_ hb; clear hb hbox hg; obtain ⟨hcz25_0, hcz25_1, hcz25_2, hcz25_3, hcz25_4⟩ := cl5_ BK213; obtain ⟨hfz25_0, hfz25_1, hfz25_2, hfz25_3, hfz25_4⟩ := fz5_ BK213))
  go_ret
  exact ⟨by first | rfl | (simp [errW_none, errW_some] <;> rfl) | (simp [*, errW_none, errW_some] <;> rfl), bel_⟩
 rw [if_neg c14] at H
 have c14b0 : (a0_0 == 2) = false := beq_eq_false_iff_ne.mpr c14
 have c14b1 : (a0_0 != 2) = true := bne_iff_ne.mpr c14
 by_cases c26 : a0_0 = 3
 ·rw [if_pos c26] at H
  have c26b0 : (a0_0 == 3) = true := beq_iff_eq.mpr c26
  have c26b1 : (a0_0 != 3) = false := bne_eq_false_iff_eq.mpr c26
  clear c26
  by_cases c27 : a0_2 > 0
  ·rw [if_pos c27] at H
   have c27b0 : decide (0 < a0_2) = true := decide_eq_true c27
   clear c27
   by_cases c28 : a0_4.toList = ([] : List UInt8)
   ·rw [if_pos c28] at H
    have c28b0 : (a0_4.toList == ([] : List UInt8)) = true := beq_iff_eq.mpr c28
    have c28b1 : (a0_4.toList != ([] : List UInt8)) = false := bne_eq_false_iff_eq.mpr c28
    clear c28
    obtain rfl := Option.some.inj H
    go_enter Tryz.func19, Tryz.ntmps19
    go_wp2_with (first | ((with_reducible refine gate_dst (N := 1) rfl ?_); (try (refine gate_guard (by rfl) ?_; dsimp only)); refine bx_ (N := 1) (cs := #[.int .u8 a0_0, .int .u16 a0_1, .int .u32 a0_2, .int .u32 a0_3, .string a0_4]) (t := 33) ?_; intro gb213 hg w29 hbox hb; have BK213 := Aside0.mk (hbox); have GW213 := ge_ hg; have GE213 := ge_ hg; replace HB := hb_ hb; clear hb hbox hg; obtain ⟨hcz30_0, hcz30_1, hcz30_2, hcz30_3, hcz30_4⟩ := cl5_ BK213; obtain ⟨hfz30_0, hfz30_1, hfz30_2, hfz30_3, hfz30_4⟩ := fz5_ BK213))
    go_ret
    exact ⟨by first | rfl | (simp [errW_none, errW_some] <;> rfl) | (simp [*, errW_none, errW_some] <;> rfl), bel_⟩
   rw [if_neg c28] at H
   have c28b0 : (a0_4.toList == ([] : List UInt8)) = false := beq_eq_false_iff_ne.mpr c28
   have c28b1 : (a0_4.toList != ([] : List UInt8)) = true := bne_iff_ne.mpr c28
   by_cases c31 : (a0_4.size : Int) ≤ 64
   ·rw [if_pos c31] at H
    have c31b0 : decide ((a0_4.size : Int) ≤ 64) = true := decide_eq_true c31
    have c31b1 : decide (a0_4.size ≤ 64) = true := decide_eq_true (by omega)
    clear c31
    replace H := Option.bind_eq_some_iff.mp H
    obtain ⟨t214, A320, H⟩ := H
    replace H : (if t214 = true then (some 4) else (if ((wrap64 (a0_3)) = (a0_4.size : Int)) then (some 0) else (some 4))) = some r := H
    have A32 := Aside0.mk A320
    clear A320
    by_cases c33 : t214 = true
    ·subst c33
     have H1 : (some 4) = some r := by rw [if_pos rfl] at H; exact H
     clear H
     have H := H1
     clear H1
     obtain rfl := Option.some.inj H
     go_enter Tryz.func19, Tryz.ntmps19
     go_wp2_with (first | ((with_reducible refine gate_dst (N := 1) rfl ?_); (try (refine gate_guard (by rfl) ?_; dsimp only)); refine bx_ (N := 1) (cs := #[.int .u8 a0_0, .int .u16 a0_1, .int .u32 a0_2, .int .u32 a0_3, .string a0_4]) (t := 33) ?_; intro gb213 hg w34 hbox hb; have BK213 := Aside0.mk (hbox); have GW213 := ge_ hg; have GE213 := ge_ hg; replace HB := hb_ hb; clear hb hbox hg; obtain ⟨hcz35_0, hcz35_1, hcz35_2, hcz35_3, hcz35_4⟩ := cl5_ BK213; obtain ⟨hfz35_0, hfz35_1, hfz35_2, hfz35_3, hfz35_4⟩ := fz5_ BK213) | (go_at_call 48; (with_reducible refine (strings_Contains.calls a0_4 (⟨#[0]⟩ : ByteArray) true _ A32.out).mono ?_); rintro e w' ⟨rfl, ⟨nd, rfl⟩⟩))
     go_ret
     exact ⟨by first | rfl | (simp [errW_none, errW_some] <;> rfl) | (simp [*, errW_none, errW_some] <;> rfl), bel_⟩
    replace c33 := Bool.eq_false_iff.mpr c33
    subst c33
    have H1 : (if ((wrap64 (a0_3)) = (a0_4.size : Int)) then (some 0) else (some 4)) = some r := by rw [if_neg (show ¬ (false = true) by decide)] at H; exact H
    clear H
    have H := H1
    clear H1
    by_cases c36 : ((wrap64 (a0_3)) = (a0_4.size : Int))
    ·rw [if_pos c36] at H
     have c36b0 : ((wrap64 (a0_3)) == (a0_4.size : Int)) = true := beq_iff_eq.mpr c36
     have c36b1 : ((wrap64 (a0_3)) != (a0_4.size : Int)) = false := bne_eq_false_iff_eq.mpr c36
     clear c36
     obtain rfl := Option.some.inj H
     go_enter Tryz.func19, Tryz.ntmps19
     go_wp2_with (first | ((with_reducible refine gate_dst (N := 1) rfl ?_); (try (refine gate_guard (by rfl) ?_; dsimp only)); refine bx_ (N := 1) (cs := #[.int .u8 a0_0, .int .u16 a0_1, .int .u32 a0_2, .int .u32 a0_3, .string a0_4]) (t := 33) ?_; intro gb213 hg w37 hbox hb; have BK213 := Aside0.mk (hbox); have GW213 := ge_ hg; have GE213 := ge_ hg; replace HB := hb_ hb; clear hb hbox hg; obtain ⟨hcz38_0, hcz38_1, hcz38_2, hcz38_3, hcz38_4⟩ := cl5_ BK213; obtain ⟨hfz38_0, hfz38_1, hfz38_2, hfz38_3, hfz38_4⟩ := fz5_ BK213) | (go_at_call 48; (with_reducible refine (strings_Contains.calls a0_4 (⟨#[0]⟩ : ByteArray) false _ A32.out).mono ?_); rintro e w' ⟨rfl, ⟨nd, rfl⟩⟩))
     go_ret
     exact ⟨by first | rfl | (simp [errW_none, errW_some] <;> rfl) | (simp [*, errW_none, errW_some] <;> rfl), bel_⟩
    rw [if_neg c36] at H
    have c36b0 : ((wrap64 (a0_3)) == (a0_4.size : Int)) = false := beq_eq_false_iff_ne.mpr c36
    have c36b1 : ((wrap64 (a0_3)) != (a0_4.size : Int)) = true := bne_iff_ne.mpr c36
    obtain rfl := Option.some.inj H
    go_enter Tryz.func19, Tryz.ntmps19
    go_wp2_with (first | ((with_reducible refine gate_dst (N := 1) rfl ?_); (try (refine gate_guard (by rfl) ?_; dsimp only)); refine bx_ (N := 1) (cs := #[.int .u8 a0_0, .int .u16 a0_1, .int .u32 a0_2, .int .u32 a0_3, .string a0_4]) (t := 33) ?_; intro gb213 hg w39 hbox hb; have BK213 := Aside0.mk (hbox); have GW213 := ge_ hg; have GE213 := ge_ hg; replace HB := hb_ hb; clear hb hbox hg; obtain ⟨hcz40_0, hcz40_1, hcz40_2, hcz40_3, hcz40_4⟩ := cl5_ BK213; obtain ⟨hfz40_0, hfz40_1, hfz40_2, hfz40_3, hfz40_4⟩ := fz5_ BK213) | (go_at_call 48; (with_reducible refine (strings_Contains.calls a0_4 (⟨#[0]⟩ : ByteArray) false _ A32.out).mono ?_); rintro e w' ⟨rfl, ⟨nd, rfl⟩⟩))
    go_ret
    exact ⟨by first | rfl | (simp [errW_none, errW_some] <;> rfl) | (simp [*, errW_none, errW_some] <;> rfl), bel_⟩
   rw [if_neg c31] at H
   have c31b0 : decide ((a0_4.size : Int) ≤ 64) = false := decide_eq_false c31
   have c31b1 : decide (a0_4.size ≤ 64) = false := decide_eq_false (by omega)
   clear c31
   obtain rfl := Option.some.inj H
   go_enter Tryz.func19, Tryz.ntmps19
   go_wp2_with (first | ((with_reducible refine gate_dst (N := 1) rfl ?_); (try (refine gate_guard (by rfl) ?_; dsimp only)); refine bx_ (N := 1) (cs := #[.int .u8 a0_0, .int .u16 a0_1, .int .u32 a0_2, .int .u32 a0_3, .string a0_4]) (t := 33) ?_; intro gb213 hg w41 hbox hb; have BK213 := Aside0.mk (hbox); have GW213 := ge_ hg; have GE213 := ge_ hg; replace HB := hb_ hb; clear hb hbox hg; obtain ⟨hcz42_0, hcz42_1, hcz42_2, hcz42_3, hcz42_4⟩ := cl5_ BK213; obtain ⟨hfz42_0, hfz42_1, hfz42_2, hfz42_3, hfz42_4⟩ := fz5_ BK213))
   go_ret
   exact ⟨by first | rfl | (simp [errW_none, errW_some] <;> rfl) | (simp [*, errW_none, errW_some] <;> rfl), bel_⟩
  rw [if_neg c27] at H
  have c27b0 : decide (0 < a0_2) = false := decide_eq_false c27
  clear c27
  obtain rfl := Option.some.inj H
  go_enter Tryz.func19, Tryz.ntmps19
  go_wp2_with (first | ((with_reducible refine gate_dst (N := 1) rfl ?_); (try (refine gate_guard (by rfl) ?_; dsimp only)); refine bx_ (N := 1) (cs := #[.int .u8 a0_0, .int .u16 a0_1, .int .u32 a0_2, .int .u32 a0_3, .string a0_4]) (t := 33) ?_; intro gb213 hg w43 hbox hb; have BK213 := Aside0.mk (hbox); have GW213 := ge_ hg; have GE213 := ge_ hg; replace HB := hb_ hb; clear hb hbox hg; obtain ⟨hcz44_0, hcz44_1, hcz44_2, hcz44_3, hcz44_4⟩ := cl5_ BK213; obtain ⟨hfz44_0, hfz44_1, hfz44_2, hfz44_3, hfz44_4⟩ := fz5_ BK213))
  go_ret
  exact ⟨by first | rfl | (simp [errW_none, errW_some] <;> rfl) | (simp [*, errW_none, errW_some] <;> rfl), bel_⟩
 rw [if_neg c26] at H
 have c26b0 : (a0_0 == 3) = false := beq_eq_false_iff_ne.mpr c26
 have c26b1 : (a0_0 != 3) = true := bne_iff_ne.mpr c26
 obtain rfl := Option.some.inj H
 go_enter Tryz.func19, Tryz.ntmps19
 go_wp2_with (first | ((with_reducible refine gate_dst (N := 1) rfl ?_); (try (refine gate_guard (by rfl) ?_; dsimp only)); refine bx_ (N := 1) (cs := #[.int .u8 a0_0, .int .u16 a0_1, .int .u32 a0_2, .int .u32 a0_3, .string a0_4]) (t := 33) ?_; intro gb213 hg w45 hbox hb; have BK213 := Aside0.mk (hbox); have GW213 := ge_ hg; have GE213 := ge_ hg; replace HB := hb_ hb; clear hb hbox hg; obtain ⟨hcz46_0, hcz46_1, hcz46_2, hcz46_3, hcz46_4⟩ := cl5_ BK213; obtain ⟨hfz46_0, hfz46_1, hfz46_2, hfz46_3, hfz46_4⟩ := fz5_ BK213))
 go_ret
 exact ⟨by first | rfl | (simp [errW_none, errW_some] <;> rfl) | (simp [*, errW_none, errW_some] <;> rfl), bel_⟩
def pack_TakeText.j0 : Nat → Int → ByteArray → Int → Bool → Option (ByteArray × ByteArray × Int)
 | 0, _, _, _, _ => none
 | k + 1, x5, x6, x7, x22 => if x22 = true then (some ((⟨#[]⟩ : ByteArray), (⟨#[]⟩ : ByteArray), 3)) else (if x7 = 0 then (if 0 ≤ x5 then (if x5 ≤ (x6.size : Int) then (some (x6.extract 0 (x5 : Int).toNat, x6.extract (x5 : Int).toNat x6.size, 0)) else (none)) else (none)) else (some ((⟨#[]⟩ : ByteArray), (⟨#[]⟩ : ByteArray), x7)))
def pack_TakeText.f (k : Nat) (a0 : ByteArray) : Option (ByteArray × ByteArray × Int) := (pack_TakeNumber.f k a0 2).bind fun bt282 => (if bt282.2.2 = 0 then (pack_TakeText.j0 k bt282.1 bt282.2.1 bt282.2.2 (decide (bt282.1 > (IntKind.u64.wrap ((bt282.2.1.size : Int)))))) else (pack_TakeText.j0 k bt282.1 bt282.2.1 bt282.2.2 false))
theorem pack_TakeText.mono_l : ∀ k, (∀ y0 y1 y2 y3, LeO (pack_TakeText.j0 k y0 y1 y2 y3) (pack_TakeText.j0 (k + 1) y0 y1 y2 y3))
 | 0 => fun _ _ _ _ r h => by simp [pack_TakeText.j0] at h
 | k + 1 => by
  have ih0 := pack_TakeText.mono_l k
  ·intro y0 y1 y2 y3
   unfold pack_TakeText.j0
   repeat' first
   | (with_reducible exact ih0 _ _ _ _)
   | (with_reducible exact pack_TakeNumber.mono _ _ _)
   | (with_reducible exact LeO.refl _)
   | (with_reducible exact LeO.none _)
   | (with_reducible refine LeO.ite ?_ ?_)
   | (with_reducible refine LeO.bind ?_ (fun _ => ?_))
   | exact ih0 _ _ _ _
   | exact pack_TakeNumber.mono _ _ _
   | exact LeO.none _
   | refine LeO.ite ?_ ?_
   | refine LeO.bind ?_ (fun _ => ?_)
theorem pack_TakeText.mono : ∀ a0 k, LeO (pack_TakeText.f k a0) (pack_TakeText.f (k + 1) a0) := by
 intro a0 k
 have ih0 := pack_TakeText.mono_l k
 unfold pack_TakeText.f
 repeat' first
   | (with_reducible exact ih0 _ _ _ _)
   | (with_reducible exact pack_TakeNumber.mono _ _ _)
   | (with_reducible exact LeO.refl _)
   | (with_reducible exact LeO.none _)
   | (with_reducible refine LeO.ite ?_ ?_)
   | (with_reducible refine LeO.bind ?_ (fun _ => ?_))
   | exact ih0 _ _ _ _
   | exact pack_TakeNumber.mono _ _ _
   | exact LeO.none _
   | refine LeO.ite ?_ ?_
   | refine LeO.bind ?_ (fun _ => ?_)
set_option maxHeartbeats 8000000 in
set_option maxRecDepth 100000 in
theorem pack_TakeText.calls (k : Nat) (a0 : ByteArray) (r1 : ByteArray) (r2 : ByteArray) (r3 : Int) (w : World) (h : pack_TakeText.f k a0 = some (r1, r2, r3)) :
  Calls Tryz.prog 134 #[.string a0] w fun e w' => e = .returned (.tuple #[.string r1, .string r2, .int .i64 r3]) ∧ Drawn0 w w' := by
 have H : ((pack_TakeNumber.f k a0 2).bind fun bt282 => (if bt282.2.2 = 0 then (pack_TakeText.j0 k bt282.1 bt282.2.1 bt282.2.2 (decide (bt282.1 > (IntKind.u64.wrap ((bt282.2.1.size : Int)))))) else (pack_TakeText.j0 k bt282.1 bt282.2.1 bt282.2.2 false))) = some (r1, r2, r3) := h
 clear h
 replace H := Option.bind_eq_some_iff.mp H
 obtain ⟨⟨t282, t283, t284⟩, A20, H⟩ := H
 replace H : (if t284 = 0 then (pack_TakeText.j0 k t282 t283 t284 (decide (t282 > (IntKind.u64.wrap ((t283.size : Int)))))) else (pack_TakeText.j0 k t282 t283 t284 false)) = some (r1, r2, r3) := H
 have A2 := Aside0.mk A20
 clear A20
 have HC3 := Aside0.mk H
 clear H
 go_enter Tryz.func134, Tryz.ntmps134
 go_upto_region 2 with (first | (go_at_call 93; (with_reducible refine (pack_TakeNumber.calls k a0 2 t282 t283 t284 _ A2.out).mono ?_); rintro e w' ⟨rfl, ⟨nd, rfl⟩⟩; (try first | exact ⟨rfl, _, World.drewN_drewN _ _ _⟩ | exact ⟨rfl, _, Eq.trans (World.drewN_drewN _ _ _) (congrArg (World.drewN _) (Nat.add_assoc _ _ _))⟩)))
 repeat (go_quiet (first | (go_at_call 93; (with_reducible refine (pack_TakeNumber.calls k a0 2 t282 t283 t284 _ A2.out).mono ?_); rintro e w' ⟨rfl, ⟨nd, rfl⟩⟩; (try first | exact ⟨rfl, _, World.drewN_drewN _ _ _⟩ | exact ⟨rfl, _, Eq.trans (World.drewN_drewN _ _ _) (congrArg (World.drewN _) (Nat.add_assoc _ _ _))⟩))); go_upto_region 2 with (first | (go_at_call 93; (with_reducible refine (pack_TakeNumber.calls k a0 2 t282 t283 t284 _ A2.out).mono ?_); rintro e w' ⟨rfl, ⟨nd, rfl⟩⟩; (try first | exact ⟨rfl, _, World.drewN_drewN _ _ _⟩ | exact ⟨rfl, _, Eq.trans (World.drewN_drewN _ _ _) (congrArg (World.drewN _) (Nat.add_assoc _ _ _))⟩))))
 (try simp only [Act.put, List.setIfInBounds_toArray, List.set_cons_zero, List.set_cons_succ])
 go_cut [22] (fun v22 wc => ∃ (kq : Nat) (x22_2 : Bool), v22 = .bool x22_2 ∧ Aside0 (pack_TakeText.j0 kq t282 t283 t284 x22_2 = some (r1, r2, r3)) ∧ Aside0 (kq ≤ k) ∧ Drawn0 w wc)
 case first =>
  have H := HC3.out
  clear HC3
  by_cases c4 : t284 = 0
  ·rw [if_pos c4] at H
   have c4b0 : (t284 == 0) = true := beq_iff_eq.mpr c4
   have c4b1 : (t284 != 0) = false := bne_eq_false_iff_eq.mpr c4
   clear c4
   (first | rw [c4b0] | (simp only [i64_w, i32_w]; rw [c4b0]) | skip)
   have H' := Aside0.mk H
   clear H
   go_wp2
   repeat (go_quiet (fail); try go_wp2)
   go_meet
   case rel => exact ⟨_, (decide (t282 > (IntKind.u64.wrap ((t283.size : Int))))), (by first | rfl | (simp; done) | (simp [*]; done)), H', ⟨by first | omega | exact Nat.le_refl _⟩, by repeat (first | exact Drawn0.refl _ | apply Drawn0.step)⟩
  rw [if_neg c4] at H
  have c4b0 : (t284 == 0) = false := beq_eq_false_iff_ne.mpr c4
  have c4b1 : (t284 != 0) = true := bne_iff_ne.mpr c4
  (first | rw [c4b0] | (simp only [i64_w, i32_w]; rw [c4b0]) | skip)
  have H' := Aside0.mk H
  clear H
  go_wp2
  repeat (go_quiet (fail); try go_wp2)
  go_meet
  case rel => exact ⟨_, (false), (by first | rfl | (simp; done) | (simp [*]; done)), H', ⟨by first | omega | exact Nat.le_refl _⟩, by repeat (first | exact Drawn0.refl _ | apply Drawn0.step)⟩
 case rest =>
  clear HC3
  try clear c1
  try clear p2
  try clear c4
  try clear c4b0
  try clear c4b1
  obtain ⟨kq, x22_2, rfl, HA, HJ2, ⟨mc2, rfl⟩⟩ := hcut
  cases kq with
  | zero => exact absurd HA.out (by simp [pack_TakeText.j0])
  | succ kj2 =>
   have H := HA.out
   clear HA
   simp only [pack_TakeText.j0] at H
   by_cases c5 : x22_2 = true
   ·subst c5
    have H1 : (some ((⟨#[]⟩ : ByteArray), (⟨#[]⟩ : ByteArray), 3)) = some (r1, r2, r3) := by rw [if_pos rfl] at H; exact H
    clear H
    have H := H1
    clear H1
    simp only [Option.some.injEq, Prod.mk.injEq] at H
    obtain ⟨rfl, rfl, rfl⟩ := H
    go_wp2
    repeat (go_quiet (fail); try go_wp2)
    go_ret3
    exact ⟨by first | rfl | (simp; done) | (simp [*]; done), by repeat (first | exact Drawn0.refl _ | apply Drawn0.step)⟩
   replace c5 := Bool.eq_false_iff.mpr c5
   subst c5
   have H1 : (if t284 = 0 then (if 0 ≤ t282 then (if t282 ≤ (t283.size : Int) then (some (t283.extract 0 (t282 : Int).toNat, t283.extract (t282 : Int).toNat t283.size, 0)) else (none)) else (none)) else (some ((⟨#[]⟩ : ByteArray), (⟨#[]⟩ : ByteArray), t284))) = some (r1, r2, r3) := by rw [if_neg (show ¬ (false = true) by decide)] at H; exact H
   clear H
   have H := H1
   clear H1
   by_cases c6 : t284 = 0
   ·rw [if_pos c6] at H
    have c6b0 : (t284 == 0) = true := beq_iff_eq.mpr c6
    have c6b1 : (t284 != 0) = false := bne_eq_false_iff_eq.mpr c6
    clear c6
    by_cases c7 : 0 ≤ t282
    ·rw [if_pos c7] at H
     have c7b0 := eq_true c7
     have c7b1 : decide (0 ≤ t282) = true := decide_eq_true c7
     clear c7
     by_cases c8 : t282 ≤ (t283.size : Int)
     ·rw [if_pos c8] at H
      have c8b0 := eq_true c8
      have c8b1 : decide (t282 ≤ (t283.size : Int)) = true := decide_eq_true c8
      clear c8
      have c9b0 := eq_true (of_decide_eq_true (by first | (with_reducible assumption) | assumption) : 0 ≤ t282)
      have c10b0 := eq_true (of_decide_eq_true (by first | (with_reducible assumption) | assumption) : t282 ≤ (t283.size : Int))
      simp only [Option.some.injEq, Prod.mk.injEq] at H
      obtain ⟨rfl, rfl, rfl⟩ := H
      go_wp2
      repeat (go_quiet (fail); try go_wp2)
      go_ret3
      exact ⟨by first | rfl | (simp; done) | (simp [*]; done), by repeat (first | exact Drawn0.refl _ | apply Drawn0.step)⟩
     rw [if_neg c8] at H
     exact absurd H (by simp)
    rw [if_neg c7] at H
    exact absurd H (by simp)
   rw [if_neg c6] at H
   have c6b0 : (t284 == 0) = false := beq_eq_false_iff_ne.mpr c6
   have c6b1 : (t284 != 0) = true := bne_iff_ne.mpr c6
   simp only [Option.some.injEq, Prod.mk.injEq] at H
   obtain ⟨rfl, rfl, rfl⟩ := H
   go_wp2
   repeat (go_quiet (fail); try go_wp2)
   go_ret3
   exact ⟨by first | rfl | (simp; done) | (simp [*]; done), by repeat (first | exact Drawn0.refl _ | apply Drawn0.step)⟩
def inode_taker_text.f (k : Nat) (s0_0 : ByteArray) (s0_1 : Bool) : Option (ByteArray × ByteArray × Bool) := (pack_TakeText.f k s0_0).bind fun bt285 => (if s0_1 = true then (some (bt285.1, bt285.2.1, true)) else (some (bt285.1, bt285.2.1, (bt285.2.2 != 0))))
theorem inode_taker_text.mono : ∀ a0 a1 k, LeO (inode_taker_text.f k a0 a1) (inode_taker_text.f (k + 1) a0 a1) := by
 intro a0 a1 k
 unfold inode_taker_text.f
 repeat' first
   | (with_reducible exact pack_TakeText.mono _ _)
   | (with_reducible exact LeO.refl _)
   | (with_reducible exact LeO.none _)
   | (with_reducible refine LeO.ite ?_ ?_)
   | (with_reducible refine LeO.bind ?_ (fun _ => ?_))
   | exact pack_TakeText.mono _ _
   | exact LeO.none _
   | refine LeO.ite ?_ ?_
   | refine LeO.bind ?_ (fun _ => ?_)
set_option maxHeartbeats 8000000 in
set_option maxRecDepth 100000 in
theorem inode_taker_text.calls (k : Nat) (g : Nat) (s0_0 : ByteArray) (s0_1 : Bool) (r1 : ByteArray) (r2 : ByteArray) (r3 : Bool) (w0 w : World) (hI : IsS156 w0 w g s0_0 s0_1) (hB : Below w0.heap.size w0 w) (h : inode_taker_text.f k s0_0 s0_1 = some (r1, r2, r3)) :
  Calls Tryz.prog 120 #[.pointer (some ⟨g, 0, none⟩)] w fun e w' => e = .returned (.string r1) ∧ IsS156 w0 w' g r2 r3 ∧ Below w0.heap.size w0 w' ∧ KeepBut w w' g none := by
 have HI0 := Aside0.mk hI
 have HK := Aside0.mk (KeepBut.refl w g none)
 have HL := Aside0.mk hB.size
 clear hI
 have HW0 := Aside0.mk hB.size
 have HB := Aside0.mk hB
 clear hB
 have H : ((pack_TakeText.f k s0_0).bind fun bt285 => (if s0_1 = true then (some (bt285.1, bt285.2.1, true)) else (some (bt285.1, bt285.2.1, (bt285.2.2 != 0))))) = some (r1, r2, r3) := h
 clear h
 replace H := Option.bind_eq_some_iff.mp H
 obtain ⟨⟨t285, t286, t287⟩, A20, H⟩ := H
 replace H : (if s0_1 = true then (some (t285, t286, true)) else (some (t285, t286, (t287 != 0)))) = some (r1, r2, r3) := H
 have A2 := Aside0.mk A20
 clear A20
 by_cases c3 : s0_1 = true
 ·subst c3
  have H1 : (some (t285, t286, true)) = some (r1, r2, r3) := by rw [if_pos rfl] at H; exact H
  clear H
  have H := H1
  clear H1
  simp only [Option.some.injEq, Prod.mk.injEq] at H
  obtain ⟨rfl, rfl, rfl⟩ := H
  obtain ⟨HGz4, hgz4⟩ := HI0.out
  have hcz4_0 := cellS156_0 HGz4
  have hcz4_1 := cellS156_1 HGz4
  have hfz4_0 := blk_frozen HGz4 0
  have hfz4_1 := blk_frozen HGz4 1
  clear HGz4 hgz4
  go_enter Tryz.func120, Tryz.ntmps120
  go_wp2_with (first | ((with_reducible refine gate_callee (f := 134) rfl ?_); refine gl_ (some 11) Tryz.func134 #[.string s0_0] ?_; (with_reducible refine (pack_TakeText.calls k s0_0 t285 t286 t287 _ A2.out).mono ?_); rintro e w' ⟨rfl, ⟨nd, rfl⟩⟩; refine ⟨_, rfl, ?_⟩))
  go_ret
  exact ⟨by first | rfl | (simp [errW_none, errW_some] <;> rfl) | (simp [*, errW_none, errW_some] <;> rfl), by repeat (first | (with_reducible first | exact HI0.out | apply IsS156.alloc | apply IsS156.drewN | apply IsS156.drew | apply IsS156.set_0 | apply IsS156.set_1) | exact HI0.out), by repeat (first | (with_reducible first | exact HB.out | apply below_alloc | apply pw_below_drewN | apply below_drew1 | refine below_set ?_ (IsS156.ge HI0.out)) | exact HB.out), by repeat (first | (with_reducible first | exact HK.out | apply KeepBut.set_ | apply keep_drewN | apply keep_drew | apply keep_alloc) | exact HK.out)⟩
 replace c3 := Bool.eq_false_iff.mpr c3
 subst c3
 have H1 : (some (t285, t286, (t287 != 0))) = some (r1, r2, r3) := by rw [if_neg (show ¬ (false = true) by decide)] at H; exact H
 clear H
 have H := H1
 clear H1
 simp only [Option.some.injEq, Prod.mk.injEq] at H
 obtain ⟨rfl, rfl, rfl⟩ := H
 obtain ⟨HGz5, hgz5⟩ := HI0.out
 have hcz5_0 := cellS156_0 HGz5
 have hcz5_1 := cellS156_1 HGz5
 have hfz5_0 := blk_frozen HGz5 0
 have hfz5_1 := blk_frozen HGz5 1
 clear HGz5 hgz5
 go_enter Tryz.func120, Tryz.ntmps120
 go_wp2_with (first | ((with_reducible refine gate_callee (f := 134) rfl ?_); refine gl_ (some 11) Tryz.func134 #[.string s0_0] ?_; (with_reducible refine (pack_TakeText.calls k s0_0 t285 t286 t287 _ A2.out).mono ?_); rintro e w' ⟨rfl, ⟨nd, rfl⟩⟩; refine ⟨_, rfl, ?_⟩))
 go_ret
 exact ⟨by first | rfl | (simp [errW_none, errW_some] <;> rfl) | (simp [*, errW_none, errW_some] <;> rfl), by repeat (first | (with_reducible first | exact HI0.out | apply IsS156.alloc | apply IsS156.drewN | apply IsS156.drew | apply IsS156.set_0 | apply IsS156.set_1) | exact HI0.out), by repeat (first | (with_reducible first | exact HB.out | apply below_alloc | apply pw_below_drewN | apply below_drew1 | refine below_set ?_ (IsS156.ge HI0.out)) | exact HB.out), by repeat (first | (with_reducible first | exact HK.out | apply KeepBut.set_ | apply keep_drewN | apply keep_drew | apply keep_alloc) | exact HK.out)⟩
def inode_Decode.f (k : Nat) (a0 : ByteArray) : Option (Int × Int × Int × Int × ByteArray × Int) := (inode_taker_number.f k a0 false 1).bind fun bt290 => ((inode_taker_number.f k bt290.2.1 bt290.2.2 2).bind fun bt293 => ((inode_taker_number.f k bt293.2.1 bt293.2.2 4).bind fun bt296 => ((inode_taker_number.f k bt296.2.1 bt296.2.2 4).bind fun bt299 => ((inode_taker_text.f k bt299.2.1 bt299.2.2).bind fun bt302 => (if bt302.2.2 = true then (some (0, 0, 0, 0, (⟨#[]⟩ : ByteArray), 4)) else (if bt302.2.1.toList = ([] : List UInt8) then ((inode_Check.f ((bt290.1) % 256) (IntKind.u16.wrap (bt293.1)) ((bt296.1) % 4294967296) ((bt299.1) % 4294967296) bt302.1).bind fun t306 => (if t306 = 0 then (some ((bt290.1) % 256, IntKind.u16.wrap (bt293.1), (bt296.1) % 4294967296, (bt299.1) % 4294967296, bt302.1, 0)) else (some (0, 0, 0, 0, (⟨#[]⟩ : ByteArray), 4)))) else (some (0, 0, 0, 0, (⟨#[]⟩ : ByteArray), 4))))))))
theorem inode_Decode.mono : ∀ a0 k, LeO (inode_Decode.f k a0) (inode_Decode.f (k + 1) a0) := by
 intro a0 k
 unfold inode_Decode.f
 repeat' first
   | (with_reducible exact inode_taker_number.mono _ _ _ _)
   | (with_reducible exact inode_taker_text.mono _ _ _)
   | (with_reducible exact LeO.refl _)
   | (with_reducible exact LeO.none _)
   | (with_reducible refine LeO.ite ?_ ?_)
   | (with_reducible refine LeO.bind ?_ (fun _ => ?_))
   | exact inode_taker_number.mono _ _ _ _
   | exact inode_taker_text.mono _ _ _
   | exact LeO.none _
   | refine LeO.ite ?_ ?_
   | refine LeO.bind ?_ (fun _ => ?_)
set_option maxHeartbeats 8000000 in
set_option maxRecDepth 100000 in
theorem inode_Decode.calls (k : Nat) (a0 : ByteArray) (r1 : Int) (r2 : Int) (r3 : Int) (r4 : Int) (r5 : ByteArray) (r6 : Int) (w : World) (h : inode_Decode.f k a0 = some (r1, r2, r3, r4, r5, r6)) :
  Calls Tryz.prog 103 #[.string a0] w fun e w' => e = .returned (.tuple #[.agg #[.int .u8 r1, .int .u16 r2, .int .u32 r3, .int .u32 r4, .string r5], .int .i64 r6]) ∧ Below w.heap.size w w' := by
 have hu33 := Tryz.underlying33
 have hu156 := Tryz.underlying156
 have HB := Aside0.mk (Below.refl w.heap.size w)
 have H : ((inode_taker_number.f k a0 false 1).bind fun bt290 => ((inode_taker_number.f k bt290.2.1 bt290.2.2 2).bind fun bt293 => ((inode_taker_number.f k bt293.2.1 bt293.2.2 4).bind fun bt296 => ((inode_taker_number.f k bt296.2.1 bt296.2.2 4).bind fun bt299 => ((inode_taker_text.f k bt299.2.1 bt299.2.2).bind fun bt302 => (if bt302.2.2 = true then (some (0, 0, 0, 0, (⟨#[]⟩ : ByteArray), 4)) else (if bt302.2.1.toList = ([] : List UInt8) then ((inode_Check.f ((bt290.1) % 256) (IntKind.u16.wrap (bt293.1)) ((bt296.1) % 4294967296) ((bt299.1) % 4294967296) bt302.1).bind fun t306 => (if t306 = 0 then (some ((bt290.1) % 256, IntKind.u16.wrap (bt293.1), (bt296.1) % 4294967296, (bt299.1) % 4294967296, bt302.1, 0)) else (some (0, 0, 0, 0, (⟨#[]⟩ : ByteArray), 4)))) else (some (0, 0, 0, 0, (⟨#[]⟩ : ByteArray), 4))))))))) = some (r1, r2, r3, r4, r5, r6) := h
 clear h
 replace H := Option.bind_eq_some_iff.mp H
 obtain ⟨⟨t290, t291, t292⟩, A20, H⟩ := H
 replace H : ((inode_taker_number.f k t291 t292 2).bind fun bt293 => ((inode_taker_number.f k bt293.2.1 bt293.2.2 4).bind fun bt296 => ((inode_taker_number.f k bt296.2.1 bt296.2.2 4).bind fun bt299 => ((inode_taker_text.f k bt299.2.1 bt299.2.2).bind fun bt302 => (if bt302.2.2 = true then (some (0, 0, 0, 0, (⟨#[]⟩ : ByteArray), 4)) else (if bt302.2.1.toList = ([] : List UInt8) then ((inode_Check.f ((t290) % 256) (IntKind.u16.wrap (bt293.1)) ((bt296.1) % 4294967296) ((bt299.1) % 4294967296) bt302.1).bind fun t306 => (if t306 = 0 then (some ((t290) % 256, IntKind.u16.wrap (bt293.1), (bt296.1) % 4294967296, (bt299.1) % 4294967296, bt302.1, 0)) else (some (0, 0, 0, 0, (⟨#[]⟩ : ByteArray), 4)))) else (some (0, 0, 0, 0, (⟨#[]⟩ : ByteArray), 4)))))))) = some (r1, r2, r3, r4, r5, r6) := H
 have A2 := Aside0.mk A20
 clear A20
 replace H := Option.bind_eq_some_iff.mp H
 obtain ⟨⟨t293, t294, t295⟩, A30, H⟩ := H
 replace H : ((inode_taker_number.f k t294 t295 4).bind fun bt296 => ((inode_taker_number.f k bt296.2.1 bt296.2.2 4).bind fun bt299 => ((inode_taker_text.f k bt299.2.1 bt299.2.2).bind fun bt302 => (if bt302.2.2 = true then (some (0, 0, 0, 0, (⟨#[]⟩ : ByteArray), 4)) else (if bt302.2.1.toList = ([] : List UInt8) then ((inode_Check.f ((t290) % 256) (IntKind.u16.wrap (t293)) ((bt296.1) % 4294967296) ((bt299.1) % 4294967296) bt302.1).bind fun t306 => (if t306 = 0 then (some ((t290) % 256, IntKind.u16.wrap (t293), (bt296.1) % 4294967296, (bt299.1) % 4294967296, bt302.1, 0)) else (some (0, 0, 0, 0, (⟨#[]⟩ : ByteArray), 4)))) else (some (0, 0, 0, 0, (⟨#[]⟩ : ByteArray), 4))))))) = some (r1, r2, r3, r4, r5, r6) := H
 have A3 := Aside0.mk A30
 clear A30
 replace H := Option.bind_eq_some_iff.mp H
 obtain ⟨⟨t296, t297, t298⟩, A40, H⟩ := H
 replace H : ((inode_taker_number.f k t297 t298 4).bind fun bt299 => ((inode_taker_text.f k bt299.2.1 bt299.2.2).bind fun bt302 => (if bt302.2.2 = true then (some (0, 0, 0, 0, (⟨#[]⟩ : ByteArray), 4)) else (if bt302.2.1.toList = ([] : List UInt8) then ((inode_Check.f ((t290) % 256) (IntKind.u16.wrap (t293)) ((t296) % 4294967296) ((bt299.1) % 4294967296) bt302.1).bind fun t306 => (if t306 = 0 then (some ((t290) % 256, IntKind.u16.wrap (t293), (t296) % 4294967296, (bt299.1) % 4294967296, bt302.1, 0)) else (some (0, 0, 0, 0, (⟨#[]⟩ : ByteArray), 4)))) else (some (0, 0, 0, 0, (⟨#[]⟩ : ByteArray), 4)))))) = some (r1, r2, r3, r4, r5, r6) := H
 have A4 := Aside0.mk A40
 clear A40
 replace H := Option.bind_eq_some_iff.mp H
 obtain ⟨⟨t299, t300, t301⟩, A50, H⟩ := H
 replace H : ((inode_taker_text.f k t300 t301).bind fun bt302 => (if bt302.2.2 = true then (some (0, 0, 0, 0, (⟨#[]⟩ : ByteArray), 4)) else (if bt302.2.1.toList = ([] : List UInt8) then ((inode_Check.f ((t290) % 256) (IntKind.u16.wrap (t293)) ((t296) % 4294967296) ((t299) % 4294967296) bt302.1).bind fun t306 => (if t306 = 0 then (some ((t290) % 256, IntKind.u16.wrap (t293), (t296) % 4294967296, (t299) % 4294967296, bt302.1, 0)) else (some (0, 0, 0, 0, (⟨#[]⟩ : ByteArray), 4)))) else (some (0, 0, 0, 0, (⟨#[]⟩ : ByteArray), 4))))) = some (r1, r2, r3, r4, r5, r6) := H
 have A5 := Aside0.mk A50
 clear A50
 replace H := Option.bind_eq_some_iff.mp H
 obtain ⟨⟨t302, t303, t304⟩, A60, H⟩ := H
 replace H : (if t304 = true then (some (0, 0, 0, 0, (⟨#[]⟩ : ByteArray), 4)) else (if t303.toList = ([] : List UInt8) then ((inode_Check.f ((t290) % 256) (IntKind.u16.wrap (t293)) ((t296) % 4294967296) ((t299) % 4294967296) t302).bind fun t306 => (if t306 = 0 then (some ((t290) % 256, IntKind.u16.wrap (t293), (t296) % 4294967296, (t299) % 4294967296, t302, 0)) else (some (0, 0, 0, 0, (⟨#[]⟩ : ByteArray), 4)))) else (some (0, 0, 0, 0, (⟨#[]⟩ : ByteArray), 4)))) = some (r1, r2, r3, r4, r5, r6) := H
 have A6 := Aside0.mk A60
 clear A60
 by_cases c7 : t304 = true
 ·subst c7
  have H1 : (some (0, 0, 0, 0, (⟨#[]⟩ : ByteArray), 4)) = some (r1, r2, r3, r4, r5, r6) := by rw [if_pos rfl] at H; exact H
  clear H
  have H := H1
  clear H1
  simp only [Option.some.injEq, Prod.mk.injEq] at H
  obtain ⟨rfl, rfl, rfl, rfl, rfl, rfl⟩ := H
  go_enter Tryz.func103, Tryz.ntmps103
  go_wp2_with (first | ((with_reducible refine gate_dst (N := 2) rfl ?_); refine bx_ (N := 2) (cs := #[.int .u8 0, .int .u16 0, .int .u32 0, .int .u32 0, .string (⟨#[]⟩ : ByteArray)]) (t := 33) ?_; intro gb288 hg w8 hbox hb; have BK288 := Aside0.mk (hbox); have GW288 := ge_ hg; have GE288 := ge_ hg; replace HB := hb_ hb; clear hb hbox hg) | ((with_reducible refine gate_dst (N := 8) rfl ?_); refine bx_ (N := 8) (cs := #[.string a0, .bool false]) (t := 156) ?_; intro gb289 hg w9 hbox hb; have BK289 := Aside0.mk (hbox); have GW289 := ge_ hg; have GE289 := ge_ hg; have NB288_289 := nl_ BK288 hg; have NB289_288 := ng_ BK288 hg; replace BK288 := kb_ BK288 hb; replace HB := hb_ hb; clear hb hbox hg) | ((with_reducible refine gate_callee (f := 68) rfl ?_); refine gl_ (some 10) Tryz.func68 #[.pointer (some ⟨gb289, 0, none⟩), .int .i64 1] ?_; (with_reducible refine (inode_taker_number.calls k gb289 a0 false 1 t290 t291 t292 w _ ?side1 ?side2 A2.out).mono ?_); (case side1 => exact ⟨(bk_ BK289), GE289.out⟩); (case side2 => repeat (first | (with_reducible first | exact HB.out | apply below_alloc | apply pw_below_drewN | apply below_drew1 | refine below_set ?_ GE288.out | refine below_set ?_ GE289.out) | exact HB.out)); rintro e w10 ⟨rfl, hi, hb, hk⟩; refine ⟨_, rfl, ?_⟩; replace BK288 := Aside0.mk (KeepBut.blk hk (g' := gb288) (o := .cells #[.int .u8 0, .int .u16 0, .int .u32 0, .int .u32 0, .string (⟨#[]⟩ : ByteArray)] 33 (0, 0)) (bk_ BK288) NB288_289.out (by simp)); replace HB := Aside0.mk (hb); replace BK289 := Aside0.mk (hi.1); (try clear hb); (try clear hb2); (try clear hk); (try clear hi)) | ((with_reducible refine gate_callee (f := 68) rfl ?_); refine gl_ (some 13) Tryz.func68 #[.pointer (some ⟨gb289, 0, none⟩), .int .i64 2] ?_; (with_reducible refine (inode_taker_number.calls k gb289 t291 t292 2 t293 t294 t295 w _ ?side1 ?side2 A3.out).mono ?_); (case side1 => exact ⟨(bk_ BK289), GE289.out⟩); (case side2 => repeat (first | (with_reducible first | exact HB.out | apply below_alloc | apply pw_below_drewN | apply below_drew1 | refine below_set ?_ GE288.out | refine below_set ?_ GE289.out) | exact HB.out)); rintro e w11 ⟨rfl, hi, hb, hk⟩; refine ⟨_, rfl, ?_⟩; replace BK288 := Aside0.mk (KeepBut.blk hk (g' := gb288) (o := .cells #[.int .u8 0, .int .u16 0, .int .u32 0, .int .u32 0, .string (⟨#[]⟩ : ByteArray)] 33 (0, 0)) (bk_ BK288) NB288_289.out (by simp)); replace HB := Aside0.mk (hb); replace BK289 := Aside0.mk (hi.1); (try clear hb); (try clear hb2); (try clear hk); (try clear hi)) | ((with_reducible refine gate_callee (f := 68) rfl ?_); refine gl_ (some 16) Tryz.func68 #[.pointer (some ⟨gb289, 0, none⟩), .int .i64 4] ?_; (with_reducible refine (inode_taker_number.calls k gb289 t294 t295 4 t296 t297 t298 w _ ?side1 ?side2 A4.out).mono ?_); (case side1 => exact ⟨(bk_ BK289), GE289.out⟩); (case side2 => repeat (first | (with_reducible first | exact HB.out | apply below_alloc | apply pw_below_drewN | apply below_drew1 | refine below_set ?_ GE288.out | refine below_set ?_ GE289.out) | exact HB.out)); rintro e w12 ⟨rfl, hi, hb, hk⟩; refine ⟨_, rfl, ?_⟩; replace BK288 := Aside0.mk (KeepBut.blk hk (g' := gb288) (o := .cells #[.int .u8 0, .int .u16 0, .int .u32 0, .int .u32 0, .string (⟨#[]⟩ : ByteArray)] 33 (0, 0)) (bk_ BK288) NB288_289.out (by simp)); replace HB := Aside0.mk (hb); replace BK289 := Aside0.mk (hi.1); (try clear hb); (try clear hb2); (try clear hk); (try clear hi)) | ((with_reducible refine gate_callee (f := 68) rfl ?_); refine gl_ (some 19) Tryz.func68 #[.pointer (some ⟨gb289, 0, none⟩), .int .i64 4] ?_; (with_reducible refine (inode_taker_number.calls k gb289 t297 t298 4 t299 t300 t301 w _ ?side1 ?side2 A5.out).mono ?_); (case side1 => exact ⟨(bk_ BK289), GE289.out⟩); (case side2 => repeat (first | (with_reducible first | exact HB.out | apply below_alloc | apply pw_below_drewN | apply below_drew1 | refine below_set ?_ GE288.out | refine below_set ?_ GE289.out) | exact HB.out)); rintro e w13 ⟨rfl, hi, hb, hk⟩; refine ⟨_, rfl, ?_⟩; replace BK288 := Aside0.mk (KeepBut.blk hk (g' := gb288) (o := .cells #[.int .u8 0, .int .u16 0, .int .u32 0, .int .u32 0, .string (⟨#[]⟩ : ByteArray)] 33 (0, 0)) (bk_ BK288) NB288_289.out (by simp)); replace HB := Aside0.mk (hb); replace BK289 := Aside0.mk (hi.1); (try clear hb); (try clear hb2); (try clear hk); (try clear hi)) | ((with_reducible refine gate_callee (f := 120) rfl ?_); refine gl_ (some 22) Tryz.func120 #[.pointer (some ⟨gb289, 0, none⟩)] ?_; (with_reducible refine (inode_taker_text.calls k gb289 t300 t301 t302 t303 true w _ ?side1 ?side2 A6.out).mono ?_); (case side1 => exact ⟨(bk_ BK289), GE289.out⟩); (case side2 => repeat (first | (with_reducible first | exact HB.out | apply below_alloc | apply pw_below_drewN | apply below_drew1 | refine below_set ?_ GE288.out | refine below_set ?_ GE289.out) | exact HB.out)); rintro e w14 ⟨rfl, hi, hb, hk⟩; refine ⟨_, rfl, ?_⟩; replace BK288 := Aside0.mk (KeepBut.blk hk (g' := gb288) (o := .cells #[.int .u8 0, .int .u16 0, .int .u32 0, .int .u32 0, .string (⟨#[]⟩ : ByteArray)] 33 (0, 0)) (bk_ BK288) NB288_289.out (by simp)); replace HB := Aside0.mk (hb); replace BK289 := Aside0.mk (hi.1); (try clear hb); (try clear hb2); (try clear hk); (try clear hi)) | ((with_reducible refine gate_dst (N := 5) rfl ?_); refine bx_ (N := 5) (cs := #[.int .u8 0, .int .u16 0, .int .u32 0, .int .u32 0, .string (⟨#[]⟩ : ByteArray)]) (t := 33) ?_; intro gb305 hg w15 hbox hb; have BK305 := Aside0.mk (hbox); have GW305 := ge_ hg; have GE305 := ge_ hg; have NB288_305 := nl_ BK288 hg; have NB305_288 := ng_ BK288 hg; have NB289_305 := nl_ BK289 hg; have NB305_289 := ng_ BK289 hg; replace BK288 := kb_ BK288 hb; replace BK289 := kb_ BK289 hb; replace HB := hb_ hb; clear hb hbox hg; have hnb16 := NB305_288.out; have hnc16 := NB288_305.out; have hnb17 := NB305_289.out; have hnc17 := NB289_305.out; obtain ⟨hcz18_0, hcz18_1, hcz18_2, hcz18_3, hcz18_4⟩ := cl5_ BK305; obtain ⟨hfz18_0, hfz18_1, hfz18_2, hfz18_3, hfz18_4⟩ := fz5_ BK305; have hnb19 := NB289_288.out; have hnc19 := NB288_289.out; obtain ⟨hcz20_0, hcz20_1⟩ := cl2_ BK289; obtain ⟨hfz20_0, hfz20_1⟩ := fz2_ BK289; obtain ⟨hcz21_0, hcz21_1, hcz21_2, hcz21_3, hcz21_4⟩ := cl5_ BK288; obtain ⟨hfz21_0, hfz21_1, hfz21_2, hfz21_3, hfz21_4⟩ := fz5_ BK288))
  refine bodyPost_ret (results_ct rfl _ _ gb288 33 #[.int .u8 0, .int .u16 0, .int .u32 0, .int .u32 0, .string (⟨#[]⟩ : ByteArray)] (0, 0) _ rfl (bs_) Tryz.underlying33 rfl (by kernel_rfl)) rfl ?_
  exact ⟨by first | rfl | (simp [errW_none, errW_some] <;> rfl) | (simp [*, errW_none, errW_some] <;> rfl), bel_⟩
 replace c7 := Bool.eq_false_iff.mpr c7
 subst c7
 have H1 : (if t303.toList = ([] : List UInt8) then ((inode_Check.f ((t290) % 256) (IntKind.u16.wrap (t293)) ((t296) % 4294967296) ((t299) % 4294967296) t302).bind fun t306 => (if t306 = 0 then (some ((t290) % 256, IntKind.u16.wrap (t293), (t296) % 4294967296, (t299) % 4294967296, t302, 0)) else (some (0, 0, 0, 0, (⟨#[]⟩ : ByteArray), 4)))) else (some (0, 0, 0, 0, (⟨#[]⟩ : ByteArray), 4))) = some (r1, r2, r3, r4, r5, r6) := by rw [if_neg (show ¬ (false = true) by decide)] at H; exact H
 clear H
 have H := H1
 clear H1
 by_cases c22 : t303.toList = ([] : List UInt8)
 ·rw [if_pos c22] at H
  have c22b0 : (t303.toList == ([] : List UInt8)) = true := beq_iff_eq.mpr c22
  have c22b1 : (t303.toList != ([] : List UInt8)) = false := bne_eq_false_iff_eq.mpr c22
  clear c22
  replace H := Option.bind_eq_some_iff.mp H
  obtain ⟨t306, A230, H⟩ := H
  replace H : (if t306 = 0 then (some ((t290) % 256, IntKind.u16.wrap (t293), (t296) % 4294967296, (t299) % 4294967296, t302, 0)) else (some (0, 0, 0, 0, (⟨#[]⟩ : ByteArray), 4))) = some (r1, r2, r3, r4, r5, r6) := H
  have A23 := Aside0.mk A230
  clear A230
  by_cases c24 : t306 = 0
  ·rw [if_pos c24] at H
   have c24b0 : (t306 == 0) = true := beq_iff_eq.mpr c24
   have c24b1 : (t306 != 0) = false := bne_eq_false_iff_eq.mpr c24
   clear c24
   simp only [Option.some.injEq, Prod.mk.injEq] at H
   obtain ⟨rfl, rfl, rfl, rfl, rfl, rfl⟩ := H
   go_enter Tryz.func103, Tryz.ntmps103
   go_wp2_with (first | ((with_reducible refine gate_dst (N := 2) rfl ?_); refine bx_ (N := 2) (cs := #[.int .u8 0, .int .u16 0, .int .u32 0, .int .u32 0, .string (⟨#[]⟩ : ByteArray)]) (t := 33) ?_; intro gb288 hg w25 hbox hb; have BK288 := Aside0.mk (hbox); have GW288 := ge_ hg; have GE288 := ge_ hg; replace HB := hb_ hb; clear hb hbox hg) | ((with_reducible refine gate_dst (N := 8) rfl ?_); refine bx_ (N := 8) (cs := #[.string a0, .bool false]) (t := 156) ?_; intro gb289 hg w26 hbox hb; have BK289 := Aside0.mk (hbox); have GW289 := ge_ hg; have GE289 := ge_ hg; have NB288_289 := nl_ BK288 hg; have NB289_288 := ng_ BK288 hg; replace BK288 := kb_ BK288 hb; replace HB := hb_ hb; clear hb hbox hg) | ((with_reducible refine gate_callee (f := 68) rfl ?_); refine gl_ (some 10) Tryz.func68 #[.pointer (some ⟨gb289, 0, none⟩), .int .i64 1] ?_; (with_reducible refine (inode_taker_number.calls k gb289 a0 false 1 t290 t291 t292 w _ ?side1 ?side2 A2.out).mono ?_); (case side1 => exact ⟨(bk_ BK289), GE289.out⟩); (case side2 => repeat (first | (with_reducible first | exact HB.out | apply below_alloc | apply pw_below_drewN | apply below_drew1 | refine below_set ?_ GE288.out | refine below_set ?_ GE289.out) | exact HB.out)); rintro e w27 ⟨rfl, hi, hb, hk⟩; refine ⟨_, rfl, ?_⟩; replace BK288 := Aside0.mk (KeepBut.blk hk (g' := gb288) (o := .cells #[.int .u8 0, .int .u16 0, .int .u32 0, .int .u32 0, .string (⟨#[]⟩ : ByteArray)] 33 (0, 0)) (bk_ BK288) NB288_289.out (by simp)); replace HB := Aside0.mk (hb); replace BK289 := Aside0.mk (hi.1); (try clear hb); (try clear hb2); (try clear hk); (try clear hi)) | ((with_reducible refine gate_callee (f := 68) rfl ?_); refine gl_ (some 13) Tryz.func68 #[.pointer (some ⟨gb289, 0, none⟩), .int .i64 2] ?_; (with_reducible refine (inode_taker_number.calls k gb289 t291 t292 2 t293 t294 t295 w _ ?side1 ?side2 A3.out).mono ?_); (case side1 => exact ⟨(bk_ BK289), GE289.out⟩); (case side2 => repeat (first | (with_reducible first | exact HB.out | apply below_alloc | apply pw_below_drewN | apply below_drew1 | refine below_set ?_ GE288.out | refine below_set ?_ GE289.out) | exact HB.out)); rintro e w28 ⟨rfl, hi, hb, hk⟩; refine ⟨_, rfl, ?_⟩; replace BK288 := Aside0.mk (KeepBut.blk hk (g' := gb288) (o := .cells #[.int .u8 0, .int .u16 0, .int .u32 0, .int .u32 0, .string (⟨#[]⟩ : ByteArray)] 33 (0, 0)) (bk_ BK288) NB288_289.out (by simp)); replace HB := Aside0.mk (hb); replace BK289 := Aside0.mk (hi.1); (try clear hb); (try clear hb2); (try clear hk); (try clear hi)) | ((with_reducible refine gate_callee (f := 68) rfl ?_); refine gl_ (some 16) Tryz.func68 #[.pointer (some ⟨gb289, 0, none⟩), .int .i64 4] ?_; (with_reducible refine (inode_taker_number.calls k gb289 t294 t295 4 t296 t297 t298 w _ ?side1 ?side2 A4.out).mono ?_); (case side1 => exact ⟨(bk_ BK289), GE289.out⟩); (case side2 => repeat (first | (with_reducible first | exact HB.out | apply below_alloc | apply pw_below_drewN | apply below_drew1 | refine below_set ?_ GE288.out | refine below_set ?_ GE289.out) | exact HB.out)); rintro e w29 ⟨rfl, hi, hb, hk⟩; refine ⟨_, rfl, ?_⟩; replace BK288 := Aside0.mk (KeepBut.blk hk (g' := gb288) (o := .cells #[.int .u8 0, .int .u16 0, .int .u32 0, .int .u32 0, .string (⟨#[]⟩ : ByteArray)] 33 (0, 0)) (bk_ BK288) NB288_289.out (by simp)); replace HB := Aside0.mk (hb); replace BK289 := Aside0.mk (hi.1); (try clear hb); (try clear hb2); (try clear hk); (try clear hi)) | ((with_reducible refine gate_callee (f := 68) rfl ?_); refine gl_ (some 19) Tryz.func68 #[.pointer (some ⟨gb289, 0, none⟩), .int .i64 4] ?_; (with_reducible refine (inode_taker_number.calls k gb289 t297 t298 4 t299 t300 t301 w _ ?side1 ?side2 A5.out).mono ?_); (case side1 => exact ⟨(bk_ BK289), GE289.out⟩); (case side2 => repeat (first | (with_reducible first | exact HB.out | apply below_alloc | apply pw_below_drewN | apply below_drew1 | refine below_set ?_ GE288.out | refine below_set ?_ GE289.out) | exact HB.out)); rintro e w30 ⟨rfl, hi, hb, hk⟩; refine ⟨_, rfl, ?_⟩; replace BK288 := Aside0.mk (KeepBut.blk hk (g' := gb288) (o := .cells #[.int .u8 0, .int .u16 0, .int .u32 0, .int .u32 0, .string (⟨#[]⟩ : ByteArray)] 33 (0, 0)) (bk_ BK288) NB288_289.out (by simp)); replace HB := Aside0.mk (hb); replace BK289 := Aside0.mk (hi.1); (try clear hb); (try clear hb2); (try clear hk); (try clear hi)) | ((with_reducible refine gate_callee (f := 120) rfl ?_); refine gl_ (some 22) Tryz.func120 #[.pointer (some ⟨gb289, 0, none⟩)] ?_; (with_reducible refine (inode_taker_text.calls k gb289 t300 t301 t302 t303 false w _ ?side1 ?side2 A6.out).mono ?_); (case side1 => exact ⟨(bk_ BK289), GE289.out⟩); (case side2 => repeat (first | (with_reducible first | exact HB.out | apply below_alloc | apply pw_below_drewN | apply below_drew1 | refine below_set ?_ GE288.out | refine below_set ?_ GE289.out) | exact HB.out)); rintro e w31 ⟨rfl, hi, hb, hk⟩; refine ⟨_, rfl, ?_⟩; replace BK288 := Aside0.mk (KeepBut.blk hk (g' := gb288) (o := .cells #[.int .u8 0, .int .u16 0, .int .u32 0, .int .u32 0, .string (⟨#[]⟩ : ByteArray)] 33 (0, 0)) (bk_ BK288) NB288_289.out (by simp)); replace HB := Aside0.mk (hb); replace BK289 := Aside0.mk (hi.1); (try clear hb); (try clear hb2); (try clear hk); (try clear hi)) | ((with_reducible refine gate_dst (N := 5) rfl ?_); refine bx_ (N := 5) (cs := #[.int .u8 0, .int .u16 0, .int .u32 0, .int .u32 0, .string (⟨#[]⟩ : ByteArray)]) (t := 33) ?_; intro gb305 hg w32 hbox hb; have BK305 := Aside0.mk (hbox); have GW305 := ge_ hg; have GE305 := ge_ hg; have NB288_305 := nl_ BK288 hg; have NB305_288 := ng_ BK288 hg; have NB289_305 := nl_ BK289 hg; have NB305_289 := ng_ BK289 hg; replace BK288 := kb_ BK288 hb; replace BK289 := kb_ BK289 hb; replace HB := hb_ hb; clear hb hbox hg; have hnb33 := NB305_288.out; have hnc33 := NB288_305.out; have hnb34 := NB305_289.out; have hnc34 := NB289_305.out; obtain ⟨hcz35_0, hcz35_1, hcz35_2, hcz35_3, hcz35_4⟩ := cl5_ BK305; obtain ⟨hfz35_0, hfz35_1, hfz35_2, hfz35_3, hfz35_4⟩ := fz5_ BK305; have hnb36 := NB289_288.out; have hnc36 := NB288_289.out; obtain ⟨hcz37_0, hcz37_1⟩ := cl2_ BK289; obtain ⟨hfz37_0, hfz37_1⟩ := fz2_ BK289) | (go_at_call 19; (with_reducible refine (inode_Check.calls ((t290) % 256) (IntKind.u16.wrap (t293)) ((t296) % 4294967296) ((t299) % 4294967296) t302 t306 _ A23.out).mono ?_); rintro e w38 ⟨rfl, hb⟩; replace BK288 := Aside0.mk (blk_below (g := gb288) (o := .cells #[.int .u8 0, .int .u16 0, .int .u32 0, .int .u32 0, .string (⟨#[]⟩ : ByteArray)] 33 (0, 0)) (bs_) hb); replace BK289 := Aside0.mk (blk_below (g := gb289) (o := .cells #[.string t303, .bool false] 156 (0, 0)) (bs_) hb); replace BK305 := Aside0.mk (blk_below (g := gb305) (o := .cells #[.int .u8 ((t290) % 256), .int .u16 (IntKind.u16.wrap (t293)), .int .u32 ((t296) % 4294967296), .int .u32 ((t299) % 4294967296), .string t302] 33 (0, 0)) (bs_) hb); replace HB := hb_ hb; (try clear hb); (try clear hb2); (try clear hk); (try clear hi); obtain ⟨hcz39_0, hcz39_1, hcz39_2, hcz39_3, hcz39_4⟩ := cl5_ BK305; obtain ⟨hfz39_0, hfz39_1, hfz39_2, hfz39_3, hfz39_4⟩ := fz5_ BK305; obtain ⟨hcz40_0, hcz40_1, hcz40_2, hcz40_3, hcz40_4⟩ := cl5_ BK288; obtain ⟨hfz40_0, hfz40_1, hfz40_2, hfz40_3, hfz40_4⟩ := fz5_ BK288))
   refine bodyPost_ret (results_ct rfl _ _ gb288 33 #[.int .u8 ((t290) % 256), .int .u16 (IntKind.u16.wrap (t293)), .int .u32 ((t296) % 4294967296), .int .u32 ((t299) % 4294967296), .string t302] (0, 0) _ rfl (bs_) Tryz.underlying33 rfl (by kernel_rfl)) rfl ?_
   exact ⟨by first | rfl | (simp [errW_none, errW_some] <;> rfl) | (simp [*, errW_none, errW_some] <;> rfl), bel_⟩
  rw [if_neg c24] at H
  have c24b0 : (t306 == 0) = false := beq_eq_false_iff_ne.mpr c24
  have c24b1 : (t306 != 0) = true := bne_iff_ne.mpr c24
  simp only [Option.some.injEq, Prod.mk.injEq] at H
  obtain ⟨rfl, rfl, rfl, rfl, rfl, rfl⟩ := H
  go_enter Tryz.func103, Tryz.ntmps103
  go_wp2_with (first | ((with_reducible refine gate_dst (N := 2) rfl ?_); refine bx_ (N := 2) (cs := #[.int .u8 0, .int .u16 0, .int .u32 0, .int .u32 0, .string (⟨#[]⟩ : ByteArray)]) (t := 33) ?_; intro gb288 hg w41 hbox hb; have BK288 := Aside0.mk (hbox); have GW288 := ge_ hg; have GE288 := ge_ hg; replace HB := hb_ hb; clear hb hbox hg) | ((with_reducible refine gate_dst (N := 8) rfl ?_); refine bx_ (N := 8) (cs := #[.string a0, .bool false]) (t := 156) ?_; intro gb289 hg w42 hbox hb; have BK289 := Aside0.mk (hbox); have GW289 := ge_ hg; have GE289 := ge_ hg; have NB288_289 := nl_ BK288 hg; have NB289_288 := ng_ BK288 hg; replace BK288 := kb_ BK288 hb; replace HB := hb_ hb; clear hb hbox hg) | ((with_reducible refine gate_callee (f := 68) rfl ?_); refine gl_ (some 10) Tryz.func68 #[.pointer (some ⟨gb289, 0, none⟩), .int .i64 1] ?_; (with_reducible refine (inode_taker_number.calls k gb289 a0 false 1 t290 t291 t292 w _ ?side1 ?side2 A2.out).mono ?_); (case side1 => exact ⟨(bk_ BK289), GE289.out⟩); (case side2 => repeat (first | (with_reducible first | exact HB.out | apply below_alloc | apply pw_below_drewN | apply below_drew1 | refine below_set ?_ GE288.out | refine below_set ?_ GE289.out) | exact HB.out)); rintro e w43 ⟨rfl, hi, hb, hk⟩; refine ⟨_, rfl, ?_⟩; replace BK288 := Aside0.mk (KeepBut.blk hk (g' := gb288) (o := .cells #[.int .u8 0, .int .u16 0, .int .u32 0, .int .u32 0, .string (⟨#[]⟩ : ByteArray)] 33 (0, 0)) (bk_ BK288) NB288_289.out (by simp)); replace HB := Aside0.mk (hb); replace BK289 := Aside0.mk (hi.1); (try clear hb); (try clear hb2); (try clear hk); (try clear hi)) | ((with_reducible refine gate_callee (f := 68) rfl ?_); refine gl_ (some 13) Tryz.func68 #[.pointer (some ⟨gb289, 0, none⟩), .int .i64 2] ?_; (with_reducible refine (inode_taker_number.calls k gb289 t291 t292 2 t293 t294 t295 w _ ?side1 ?side2 A3.out).mono ?_); (case side1 => exact ⟨(bk_ BK289), GE289.out⟩); (case side2 => repeat (first | (with_reducible first | exact HB.out | apply below_alloc | apply pw_below_drewN | apply below_drew1 | refine below_set ?_ GE288.out | refine below_set ?_ GE289.out) | exact HB.out)); rintro e w44 ⟨rfl, hi, hb, hk⟩; refine ⟨_, rfl, ?_⟩; replace BK288 := Aside0.mk (KeepBut.blk hk (g' := gb288) (o := .cells #[.int .u8 0, .int .u16 0, .int .u32 0, .int .u32 0, .string (⟨#[]⟩ : ByteArray)] 33 (0, 0)) (bk_ BK288) NB288_289.out (by simp)); replace HB := Aside0.mk (hb); replace BK289 := Aside0.mk (hi.1); (try clear hb); (try clear hb2); (try clear hk); (try clear hi)) | ((with_reducible refine gate_callee (f := 68) rfl ?_); refine gl_ (some 16) Tryz.func68 #[.pointer (some ⟨gb289, 0, none⟩), .int .i64 4] ?_; (with_reducible refine (inode_taker_number.calls k gb289 t294 t295 4 t296 t297 t298 w _ ?side1 ?side2 A4.out).mono ?_); (case side1 => exact ⟨(bk_ BK289), GE289.out⟩); (case side2 => repeat (first | (with_reducible first | exact HB.out | apply below_alloc | apply pw_below_drewN | apply below_drew1 | refine below_set ?_ GE288.out | refine below_set ?_ GE289.out) | exact HB.out)); rintro e w45 ⟨rfl, hi, hb, hk⟩; refine ⟨_, rfl, ?_⟩; replace BK288 := Aside0.mk (KeepBut.blk hk (g' := gb288) (o := .cells #[.int .u8 0, .int .u16 0, .int .u32 0, .int .u32 0, .string (⟨#[]⟩ : ByteArray)] 33 (0, 0)) (bk_ BK288) NB288_289.out (by simp)); replace HB := Aside0.mk (hb); replace BK289 := Aside0.mk (hi.1); (try clear hb); (try clear hb2); (try clear hk); (try clear hi)) | ((with_reducible refine gate_callee (f := 68) rfl ?_); refine gl_ (some 19) Tryz.func68 #[.pointer (some ⟨gb289, 0, none⟩), .int .i64 4] ?_; (with_reducible refine (inode_taker_number.calls k gb289 t297 t298 4 t299 t300 t301 w _ ?side1 ?side2 A5.out).mono ?_); (case side1 => exact ⟨(bk_ BK289), GE289.out⟩); (case side2 => repeat (first | (with_reducible first | exact HB.out | apply below_alloc | apply pw_below_drewN | apply below_drew1 | refine below_set ?_ GE288.out | refine below_set ?_ GE289.out) | exact HB.out)); rintro e w46 ⟨rfl, hi, hb, hk⟩; refine ⟨_, rfl, ?_⟩; replace BK288 := Aside0.mk (KeepBut.blk hk (g' := gb288) (o := .cells #[.int .u8 0, .int .u16 0, .int .u32 0, .int .u32 0, .string (⟨#[]⟩ : ByteArray)] 33 (0, 0)) (bk_ BK288) NB288_289.out (by simp)); replace HB := Aside0.mk (hb); replace BK289 := Aside0.mk (hi.1); (try clear hb); (try clear hb2); (try clear hk); (try clear hi)) | ((with_reducible refine gate_callee (f := 120) rfl ?_); refine gl_ (some 22) Tryz.func120 #[.pointer (some ⟨gb289, 0, none⟩)] ?_; (with_reducible refine (inode_taker_text.calls k gb289 t300 t301 t302 t303 false w _ ?side1 ?side2 A6.out).mono ?_); (case side1 => exact ⟨(bk_ BK289), GE289.out⟩); (case side2 => repeat (first | (with_reducible first | exact HB.out | apply below_alloc | apply pw_below_drewN | apply below_drew1 | refine below_set ?_ GE288.out | refine below_set ?_ GE289.out) | exact HB.out)); rintro e w47 ⟨rfl, hi, hb, hk⟩; refine ⟨_, rfl, ?_⟩; replace BK288 := Aside0.mk (KeepBut.blk hk (g' := gb288) (o := .cells #[.int .u8 0, .int .u16 0, .int .u32 0, .int .u32 0, .string (⟨#[]⟩ : ByteArray)] 33 (0, 0)) (bk_ BK288) NB288_289.out (by simp)); replace HB := Aside0.mk (hb); replace BK289 := Aside0.mk (hi.1); (try clear hb); (try clear hb2); (try clear hk); (try clear hi)) | ((with_reducible refine gate_dst (N := 5) rfl ?_); refine bx_ (N := 5) (cs := #[.int .u8 0, .int .u16 0, .int .u32 0, .int .u32 0, .string (⟨#[]⟩ : ByteArray)]) (t := 33) ?_; intro gb305 hg w48 hbox hb; have BK305 := Aside0.mk (hbox); have GW305 := ge_ hg; have GE305 := ge_ hg; have NB288_305 := nl_ BK288 hg; have NB305_288 := ng_ BK288 hg; have NB289_305 := nl_ BK289 hg; have NB305_289 := ng_ BK289 hg; replace BK288 := kb_ BK288 hb; replace BK289 := kb_ BK289 hb; replace HB := hb_ hb; clear hb hbox hg; have hnb49 := NB305_288.out; have hnc49 := NB288_305.out; have hnb50 := NB305_289.out; have hnc50 := NB289_305.out; obtain ⟨hcz51_0, hcz51_1, hcz51_2, hcz51_3, hcz51_4⟩ := cl5_ BK305; obtain ⟨hfz51_0, hfz51_1, hfz51_2, hfz51_3, hfz51_4⟩ := fz5_ BK305; have hnb52 := NB289_288.out; have hnc52 := NB288_289.out; obtain ⟨hcz53_0, hcz53_1⟩ := cl2_ BK289; obtain ⟨hfz53_0, hfz53_1⟩ := fz2_ BK289) | (go_at_call 19; (with_reducible refine (inode_Check.calls ((t290) % 256) (IntKind.u16.wrap (t293)) ((t296) % 4294967296) ((t299) % 4294967296) t302 t306 _ A23.out).mono ?_); rintro e w54 ⟨rfl, hb⟩; replace BK288 := Aside0.mk (blk_below (g := gb288) (o := .cells #[.int .u8 0, .int .u16 0, .int .u32 0, .int .u32 0, .string (⟨#[]⟩ : ByteArray)] 33 (0, 0)) (bs_) hb); replace BK289 := Aside0.mk (blk_below (g := gb289) (o := .cells #[.string t303, .bool false] 156 (0, 0)) (bs_) hb); replace BK305 := Aside0.mk (blk_below (g := gb305) (o := .cells #[.int .u8 ((t290) % 256), .int .u16 (IntKind.u16.wrap (t293)), .int .u32 ((t296) % 4294967296), .int .u32 ((t299) % 4294967296), .string t302] 33 (0, 0)) (bs_) hb); replace HB := hb_ hb; (try clear hb); (try clear hb2); (try clear hk); (try clear hi); obtain ⟨hcz55_0, hcz55_1, hcz55_2, hcz55_3, hcz55_4⟩ := cl5_ BK288; obtain ⟨hfz55_0, hfz55_1, hfz55_2, hfz55_3, hfz55_4⟩ := fz5_ BK288))
  refine bodyPost_ret (results_ct rfl _ _ gb288 33 #[.int .u8 0, .int .u16 0, .int .u32 0, .int .u32 0, .string (⟨#[]⟩ : ByteArray)] (0, 0) _ rfl (bs_) Tryz.underlying33 rfl (by kernel_rfl)) rfl ?_
  exact ⟨by first | rfl | (simp [errW_none, errW_some] <;> rfl) | (simp [*, errW_none, errW_some] <;> rfl), bel_⟩
 rw [if_neg c22] at H
 have c22b0 : (t303.toList == ([] : List UInt8)) = false := beq_eq_false_iff_ne.mpr c22
 have c22b1 : (t303.toList != ([] : List UInt8)) = true := bne_iff_ne.mpr c22
 simp only [Option.some.injEq, Prod.mk.injEq] at H
 obtain ⟨rfl, rfl, rfl, rfl, rfl, rfl⟩ := H
 go_enter Tryz.func103, Tryz.ntmps103
 go_wp2_with (first | ((with_reducible refine gate_dst (N := 2) rfl ?_); refine bx_ (N := 2) (cs := #[.int .u8 0, .int .u16 0, .int .u32 0, .int .u32 0, .string (⟨#[]⟩ : ByteArray)]) (t := 33) ?_; intro gb288 hg w56 hbox hb; have BK288 := Aside0.mk (hbox); have GW288 := ge_ hg; have GE288 := ge_ hg; replace HB := hb_ hb; clear hb hbox hg) | ((with_reducible refine gate_dst (N := 8) rfl ?_); refine bx_ (N := 8) (cs := #[.string a0, .bool false]) (t := 156) ?_; intro gb289 hg w57 hbox hb; have BK289 := Aside0.mk (hbox); have GW289 := ge_ hg; have GE289 := ge_ hg; have NB288_289 := nl_ BK288 hg; have NB289_288 := ng_ BK288 hg; replace BK288 := kb_ BK288 hb; replace HB := hb_ hb; clear hb hbox hg) | ((with_reducible refine gate_callee (f := 68) rfl ?_); refine gl_ (some 10) Tryz.func68 #[.pointer (some ⟨gb289, 0, none⟩), .int .i64 1] ?_; (with_reducible refine (inode_taker_number.calls k gb289 a0 false 1 t290 t291 t292 w _ ?side1 ?side2 A2.out).mono ?_); (case side1 => exact ⟨(bk_ BK289), GE289.out⟩); (case side2 => repeat (first | (with_reducible first | exact HB.out | apply below_alloc | apply pw_below_drewN | apply below_drew1 | refine below_set ?_ GE288.out | refine below_set ?_ GE289.out) | exact HB.out)); rintro e w58 ⟨rfl, hi, hb, hk⟩; refine ⟨_, rfl, ?_⟩; replace BK288 := Aside0.mk (KeepBut.blk hk (g' := gb288) (o := .cells #[.int .u8 0, .int .u16 0, .int .u32 0, .int .u32 0, .string (⟨#[]⟩ : ByteArray)] 33 (0, 0)) (bk_ BK288) NB288_289.out (by simp)); replace HB := Aside0.mk (hb); replace BK289 := Aside0.mk (hi.1); (try clear hb); (try clear hb2); (try clear hk); (try clear hi)) | ((with_reducible refine gate_callee (f := 68) rfl ?_); refine gl_ (some 13) Tryz.func68 #[.pointer (some ⟨gb289, 0, none⟩), .int .i64 2] ?_; (with_reducible refine (inode_taker_number.calls k gb289 t291 t292 2 t293 t294 t295 w _ ?side1 ?side2 A3.out).mono ?_); (case side1 => exact ⟨(bk_ BK289), GE289.out⟩); (case side2 => repeat (first | (with_reducible first | exact HB.out | apply below_alloc | apply pw_below_drewN | apply below_drew1 | refine below_set ?_ GE288.out | refine below_set ?_ GE289.out) | exact HB.out)); rintro e w59 ⟨rfl, hi, hb, hk⟩; refine ⟨_, rfl, ?_⟩; replace BK288 := Aside0.mk (KeepBut.blk hk (g' := gb288) (o := .cells #[.int .u8 0, .int .u16 0, .int .u32 0, .int .u32 0, .string (⟨#[]⟩ : ByteArray)] 33 (0, 0)) (bk_ BK288) NB288_289.out (by simp)); replace HB := Aside0.mk (hb); replace BK289 := Aside0.mk (hi.1); (try clear hb); (try clear hb2); (try clear hk); (try clear hi)) | ((with_reducible refine gate_callee (f := 68) rfl ?_); refine gl_ (some 16) Tryz.func68 #[.pointer (some ⟨gb289, 0, none⟩), .int .i64 4] ?_; (with_reducible refine (inode_taker_number.calls k gb289 t294 t295 4 t296 t297 t298 w _ ?side1 ?side2 A4.out).mono ?_); (case side1 => exact ⟨(bk_ BK289), GE289.out⟩); (case side2 => repeat (first | (with_reducible first | exact HB.out | apply below_alloc | apply pw_below_drewN | apply below_drew1 | refine below_set ?_ GE288.out | refine below_set ?_ GE289.out) | exact HB.out)); rintro e w60 ⟨rfl, hi, hb, hk⟩; refine ⟨_, rfl, ?_⟩; replace BK288 := Aside0.mk (KeepBut.blk hk (g' := gb288) (o := .cells #[.int .u8 0, .int .u16 0, .int .u32 0, .int .u32 0, .string (⟨#[]⟩ : ByteArray)] 33 (0, 0)) (bk_ BK288) NB288_289.out (by simp)); replace HB := Aside0.mk (hb); replace BK289 := Aside0.mk (hi.1); (try clear hb); (try clear hb2); (try clear hk); (try clear hi)) | ((with_reducible refine gate_callee (f := 68) rfl ?_); refine gl_ (some 19) Tryz.func68 #[.pointer (some ⟨gb289, 0, none⟩), .int .i64 4] ?_; (with_reducible refine (inode_taker_number.calls k gb289 t297 t298 4 t299 t300 t301 w _ ?side1 ?side2 A5.out).mono ?_); (case side1 => exact ⟨(bk_ BK289), GE289.out⟩); (case side2 => repeat (first | (with_reducible first | exact HB.out | apply below_alloc | apply pw_below_drewN | apply below_drew1 | refine below_set ?_ GE288.out | refine below_set ?_ GE289.out) | exact HB.out)); rintro e w61 ⟨rfl, hi, hb, hk⟩; refine ⟨_, rfl, ?_⟩; replace BK288 := Aside0.mk (KeepBut.blk hk (g' := gb288) (o := .cells #[.int .u8 0, .int .u16 0, .int .u32 0, .int .u32 0, .string (⟨#[]⟩ : ByteArray)] 33 (0, 0)) (bk_ BK288) NB288_289.out (by simp)); replace HB := Aside0.mk (hb); replace BK289 := Aside0.mk (hi.1); (try clear hb); (try clear hb2); (try clear hk); (try clear hi)) | ((with_reducible refine gate_callee (f := 120) rfl ?_); refine gl_ (some 22) Tryz.func120 #[.pointer (some ⟨gb289, 0, none⟩)] ?_; (with_reducible refine (inode_taker_text.calls k gb289 t300 t301 t302 t303 false w _ ?side1 ?side2 A6.out).mono ?_); (case side1 => exact ⟨(bk_ BK289), GE289.out⟩); (case side2 => repeat (first | (with_reducible first | exact HB.out | apply below_alloc | apply pw_below_drewN | apply below_drew1 | refine below_set ?_ GE288.out | refine below_set ?_ GE289.out) | exact HB.out)); rintro e w62 ⟨rfl, hi, hb, hk⟩; refine ⟨_, rfl, ?_⟩; replace BK288 := Aside0.mk (KeepBut.blk hk (g' := gb288) (o := .cells #[.int .u8 0, .int .u16 0, .int .u32 0, .int .u32 0, .string (⟨#[]⟩ : ByteArray)] 33 (0, 0)) (bk_ BK288) NB288_289.out (by simp)); replace HB := Aside0.mk (hb); replace BK289 := Aside0.mk (hi.1); (try clear hb); (try clear hb2); (try clear hk); (try clear hi)) | ((with_reducible refine gate_dst (N := 5) rfl ?_); refine bx_ (N := 5) (cs := #[.int .u8 0, .int .u16 0, .int .u32 0, .int .u32 0, .string (⟨#[]⟩ : ByteArray)]) (t := 33) ?_; intro gb305 hg w63 hbox hb; have BK305 := Aside0.mk (hbox); have GW305 := ge_ hg; have GE305 := ge_ hg; have NB288_305 := nl_ BK288 hg; have NB305_288 := ng_ BK288 hg; have NB289_305 := nl_ BK289 hg; have NB305_289 := ng_ BK289 hg; replace BK288 := kb_ BK288 hb; replace BK289 := kb_ BK289 hb; replace HB := hb_ hb; clear hb hbox hg; have hnb64 := NB305_288.out; have hnc64 := NB288_305.out; have hnb65 := NB305_289.out; have hnc65 := NB289_305.out; obtain ⟨hcz66_0, hcz66_1, hcz66_2, hcz66_3, hcz66_4⟩ := cl5_ BK305; obtain ⟨hfz66_0, hfz66_1, hfz66_2, hfz66_3, hfz66_4⟩ := fz5_ BK305; have hnb67 := NB289_288.out; have hnc67 := NB288_289.out; obtain ⟨hcz68_0, hcz68_1⟩ := cl2_ BK289; obtain ⟨hfz68_0, hfz68_1⟩ := fz2_ BK289; obtain ⟨hcz69_0, hcz69_1, hcz69_2, hcz69_3, hcz69_4⟩ := cl5_ BK288; obtain ⟨hfz69_0, hfz69_1, hfz69_2, hfz69_3, hfz69_4⟩ := fz5_ BK288))
 refine bodyPost_ret (results_ct rfl _ _ gb288 33 #[.int .u8 0, .int .u16 0, .int .u32 0, .int .u32 0, .string (⟨#[]⟩ : ByteArray)] (0, 0) _ rfl (bs_) Tryz.underlying33 rfl (by kernel_rfl)) rfl ?_
 exact ⟨by first | rfl | (simp [errW_none, errW_some] <;> rfl) | (simp [*, errW_none, errW_some] <;> rfl), bel_⟩
def item_right.f (a0 : ByteArray) (a1 : ByteArray) : Option (Bool) := if a0.toList = ([] : List UInt8) then (some false) else (if (a0.size : Int) ≤ 48 then (some (decide ((a1.size : Int) ≤ 160))) else (some false))
set_option maxHeartbeats 8000000 in
set_option maxRecDepth 100000 in
theorem item_right.calls (a0 : ByteArray) (a1 : ByteArray) (r : Bool) (w : World) (h : item_right.f a0 a1 = some r) :
  Calls Tryz.prog 51 #[.string a0, .string a1] w fun e w' => e = .returned (.bool r) ∧ Drawn0 w w' := by
 have H : (if a0.toList = ([] : List UInt8) then (some false) else (if (a0.size : Int) ≤ 48 then (some (decide ((a1.size : Int) ≤ 160))) else (some false))) = some r := h
 clear h
 by_cases c3 : a0.toList = ([] : List UInt8)
 ·rw [if_pos c3] at H
  have c3b0 : (a0.toList == ([] : List UInt8)) = true := beq_iff_eq.mpr c3
  have c3b1 : (a0.toList != ([] : List UInt8)) = false := bne_eq_false_iff_eq.mpr c3
  clear c3
  obtain rfl := Option.some.inj H
  go_enter Tryz.func51, Tryz.ntmps51
  go_wp2
  go_ret
  exact ⟨by first | rfl | (simp; done) | (simp [*]; done), by repeat (first | exact Drawn0.refl _ | apply Drawn0.step)⟩
 rw [if_neg c3] at H
 have c3b0 : (a0.toList == ([] : List UInt8)) = false := beq_eq_false_iff_ne.mpr c3
 have c3b1 : (a0.toList != ([] : List UInt8)) = true := bne_iff_ne.mpr c3
 by_cases c4 : (a0.size : Int) ≤ 48
 ·rw [if_pos c4] at H
  have c4b0 : decide ((a0.size : Int) ≤ 48) = true := decide_eq_true c4
  have c4b1 : decide (a0.size ≤ 48) = true := decide_eq_true (by omega)
  clear c4
  obtain rfl := Option.some.inj H
  go_enter Tryz.func51, Tryz.ntmps51
  go_wp2
  go_ret
  exact ⟨by first | rfl | (simp; done) | (simp [*]; done), by repeat (first | exact Drawn0.refl _ | apply Drawn0.step)⟩
 rw [if_neg c4] at H
 have c4b0 : decide ((a0.size : Int) ≤ 48) = false := decide_eq_false c4
 have c4b1 : decide (a0.size ≤ 48) = false := decide_eq_false (by omega)
 clear c4
 obtain rfl := Option.some.inj H
 go_enter Tryz.func51, Tryz.ntmps51
 go_wp2
 go_ret
 exact ⟨by first | rfl | (simp; done) | (simp [*]; done), by repeat (first | exact Drawn0.refl _ | apply Drawn0.step)⟩
end Go.Proofs.YthbljhmjppjcjaaGreatDoor.Z
end

section
/- The order of texts, byte by byte; what the walk takes of a text's > and <=. -/
namespace Go.Proofs.YthbljhmjppjcjaaGreatDoor.Z
open Go
theorem bl_irrefl : ∀ x : List UInt8, Op.bytesLess x x = false
  | [] => rfl
  | a :: x => by simp [Op.bytesLess, bl_irrefl x]
theorem bl_trans : ∀ {x y z : List UInt8}, Op.bytesLess x y = true → Op.bytesLess y z = true → Op.bytesLess x z = true
  | _, [], _, h, _ => by simp [Op.bytesLess] at h
  | [], _ :: _, [], _, h => by simp [Op.bytesLess] at h
  | _ :: _, _ :: _, [], _, h => by simp [Op.bytesLess] at h
  | [], _ :: _, _ :: _, _, _ => rfl
  | a :: x, b :: y, c :: z, h, k => by
    simp only [Op.bytesLess, Bool.or_eq_true, decide_eq_true_eq, Bool.and_eq_true, beq_iff_eq] at h k ⊢
    rcases h with h | ⟨rfl, h⟩ <;> rcases k with k | ⟨rfl, k⟩
    · exact .inl (UInt8.lt_trans h k)
    · exact .inl h
    · exact .inl k
    · exact .inr ⟨rfl, bl_trans h k⟩
theorem bl_total : ∀ x y : List UInt8, x = y ∨ Op.bytesLess x y = true ∨ Op.bytesLess y x = true
  | [], [] => .inl rfl
  | [], _ :: _ => .inr (.inl rfl)
  | _ :: _, [] => .inr (.inr rfl)
  | a :: x, b :: y => by
    simp only [Op.bytesLess, Bool.or_eq_true, decide_eq_true_eq, Bool.and_eq_true, beq_iff_eq]
    rcases Nat.lt_trichotomy a.toNat b.toNat with h | h | h
    · exact .inr (.inl (.inl (UInt8.lt_iff_toNat_lt.2 h)))
    · obtain rfl := UInt8.toNat_inj.1 h
      rcases bl_total x y with rfl | k | k
      · exact .inl rfl
      · exact .inr (.inl (.inr ⟨rfl, k⟩))
      · exact .inr (.inr (.inr ⟨rfl, k⟩))
    · exact .inr (.inr (.inl (UInt8.lt_iff_toNat_lt.2 h)))
theorem bl_asymm {x y : List UInt8} (h : Op.bytesLess x y = true) : Op.bytesLess y x = false := by
  cases k : Op.bytesLess y x
  · rfl
  · have := bl_trans h k; rw [bl_irrefl] at this; cases this
theorem bl_ne {x y : List UInt8} (h : Op.bytesLess x y = true) : x ≠ y := by rintro rfl; rw [bl_irrefl] at h; cases h
theorem bl_leq (x y : List UInt8) : (Op.bytesLess x y || x == y) = !Op.bytesLess y x := by
  rcases bl_total x y with rfl | h | h
  · simp [bl_irrefl]
  · simp [h, bl_asymm h]
  · have : (x == y) = false := by simpa using (bl_ne h).symm
    simp [h, bl_asymm h, this]
theorem bl_gtr (x y : List UInt8) : (!(Op.bytesLess x y || x == y)) = Op.bytesLess y x := by rw [bl_leq]; simp
@[go_sem] theorem binOp_string_gtr_ (t : TypeId) (a b : ByteArray) : binOp .gtr t (.string a) (.string b) = pure (.bool (Op.bytesLess b.toList a.toList)) := by
  simp [binOp, Op.stringOp]
  rw [← Bool.not_or, bl_gtr]
@[go_sem] theorem binOp_string_leq_ (t : TypeId) (a b : ByteArray) : binOp .leq t (.string a) (.string b) = pure (.bool !(Op.bytesLess b.toList a.toList)) := by
  simp [binOp, Op.stringOp]
  rw [bl_leq]
@[go_sem] theorem binOp_string_geq_ (t : TypeId) (a b : ByteArray) : binOp .geq t (.string a) (.string b) = pure (.bool !(Op.bytesLess a.toList b.toList)) := by
  simp [binOp, Op.stringOp]
end Go.Proofs.YthbljhmjppjcjaaGreatDoor.Z
end

section
namespace Go.Proofs.YthbljhmjppjcjaaGreatDoor.Z
open Go.RowKit Go.Proofs.YthbljhmjppjcjaaGreatDoorW.PrintWords Go.Proofs.YthbljhmjppjcjaaGreatDoorW.PrintLast Go.Proofs.YthbljhmjppjcjaaGreatDoorW.PrintMore
attribute [local go_sem] max2_int min2_int max_two min_two max_three min_three max_four min_four   -- for this text's walks alone
set_option linter.unusedVariables false
set_option linter.unusedSimpArgs false
def item_Check.l0 : Nat → List (S71) → List (S71) → Int → Int → Option (Int)
 | 0, _, _, _, _ => none
 | k + 1, x0, x5, x6, x7 => if x7 < x6 then (if 0 ≤ x7 then (if x7 < (x5.length : Int) then ((item_right.f ((rd_T71 x5 x7).f0) ((rd_T71 x5 x7).f1)).bind fun t116 => (if t116 = true then (if x7 > 0 then (if 0 ≤ (wrap64 (x7 - 1)) then (if (wrap64 (x7 - 1)) < (x0.length : Int) then (if ((Op.bytesLess (((rd_T71 x0 (wrap64 (x7 - 1))).f0).toList) (((rd_T71 x5 x7).f0).toList)) = true) then (item_Check.l0 k x0 x5 x6 (wrap64 (x7 + 1))) else (some 4)) else (none)) else (none)) else (item_Check.l0 k x0 x5 x6 (wrap64 (x7 + 1)))) else (some 4))) else (none)) else (none)) else (some 0)
def item_Check.f (k : Nat) (l0 : List (S71)) : Option (Int) := item_Check.l0 k l0 l0 (l0.length : Int) 0
theorem item_Check.mono_l : ∀ k, (∀ y0 y1 y2 y3, LeO (item_Check.l0 k y0 y1 y2 y3) (item_Check.l0 (k + 1) y0 y1 y2 y3))
 | 0 => fun _ _ _ _ r h => by simp [item_Check.l0] at h
 | k + 1 => by
  have ih0 := item_Check.mono_l k
  ·intro y0 y1 y2 y3
   unfold item_Check.l0
   repeat' first
   | (with_reducible exact ih0 _ _ _ _)
   | (with_reducible exact LeO.refl _)
   | (with_reducible exact LeO.none _)
   | (with_reducible refine LeO.ite ?_ ?_)
   | (with_reducible refine LeO.bind ?_ (fun _ => ?_))
   | exact ih0 _ _ _ _
   | exact LeO.none _
   | refine LeO.ite ?_ ?_
   | refine LeO.bind ?_ (fun _ => ?_)
theorem item_Check.mono : ∀ a0 k, LeO (item_Check.f k a0) (item_Check.f (k + 1) a0) := by
 intro a0 k
 have ih0 := item_Check.mono_l k
 unfold item_Check.f
 repeat' first
   | (with_reducible exact ih0 _ _ _ _)
   | (with_reducible exact LeO.refl _)
   | (with_reducible exact LeO.none _)
   | (with_reducible refine LeO.ite ?_ ?_)
   | (with_reducible refine LeO.bind ?_ (fun _ => ?_))
   | exact ih0 _ _ _ _
   | exact LeO.none _
   | refine LeO.ite ?_ ?_
   | refine LeO.bind ?_ (fun _ => ?_)
set_option maxHeartbeats 8000000 in
set_option maxRecDepth 100000 in
theorem item_Check.calls (k : Nat) (A0 : Option Addr) (c0 : Nat) (l0 : List (S71)) (r : Int) (w : World) (hr0 : Kd.C k71 w A0 l0.length l0) (hc0 : l0.length ≤ c0) (h : item_Check.f k l0 = some r) :
  Calls Tryz.prog 26 #[.slice A0 l0.length c0] w fun e w' => e = .returned (.int .i64 r) ∧ Below w.heap.size w w' := by
 have hu71 := Tryz.underlying71
 have HR0 := Aside0.mk hr0
 have HC0 := Aside0.mk hc0
 clear hr0 hc0
 have HB := Aside0.mk (Below.refl w.heap.size w)
 have H : (item_Check.l0 k l0 l0 (l0.length : Int) 0) = some r := h
 clear h
 have H' := Aside0.mk H
 clear H
 go_enter Tryz.func26, Tryz.ntmps26
 go_wp2
 repeat (go_quiet (fail); try go_wp2)
 go_loopg [7] k (fun kq v7 w' => ∃ (x7_1 : Int), v7 = .int .i64 x7_1 ∧ Aside0 (item_Check.l0 kq l0 l0 (l0.length : Int) x7_1 = some r) ∧ Aside0 (kq ≤ k) ∧ Aside0 (Below w.heap.size w w'))
 case atStart => exact ⟨(0), (by first | rfl | (simp; done) | (simp [*]; done)), H', ⟨Nat.le_refl _⟩, ⟨bel_⟩⟩
 case round =>
  clear H'
  obtain ⟨x7_1, rfl, HA, HK1, HB⟩ := hrel
  cases gk with
  | zero => exact absurd HA.out (by simp [item_Check.l0])
  | succ k1 =>
   have H := HA.out
   clear HA
   simp only [item_Check.l0] at H
   by_cases c2 : x7_1 < (l0.length : Int)
   ·rw [if_pos c2] at H
    have c2b0 : decide (x7_1 < (l0.length : Int)) = true := decide_eq_true c2
    clear c2
    by_cases c3 : 0 ≤ x7_1
    ·rw [if_pos c3] at H
     have c3b0 : decide (0 ≤ x7_1) = true := decide_eq_true c3
     clear c3
     by_cases c4 : x7_1 < (l0.length : Int)
     ·rw [if_pos c4] at H
      have c4b0 : decide (x7_1 < (l0.length : Int)) = true := decide_eq_true c4
      clear c4
      replace H := Option.bind_eq_some_iff.mp H
      obtain ⟨t116, A50, H⟩ := H
      replace H : (if t116 = true then (if x7_1 > 0 then (if 0 ≤ (wrap64 (x7_1 - 1)) then (if (wrap64 (x7_1 - 1)) < (l0.length : Int) then (if ((Op.bytesLess (((rd_T71 l0 (wrap64 (x7_1 - 1))).f0).toList) (((rd_T71 l0 x7_1).f0).toList)) = true) then (item_Check.l0 k1 l0 l0 (l0.length : Int) (wrap64 (x7_1 + 1))) else (some 4)) else (none)) else (none)) else (item_Check.l0 k1 l0 l0 (l0.length : Int) (wrap64 (x7_1 + 1)))) else (some 4)) = some r := H
      have A5 := Aside0.mk A50
      clear A50
      by_cases c6 : t116 = true
      ·subst c6
       have H1 : (if x7_1 > 0 then (if 0 ≤ (wrap64 (x7_1 - 1)) then (if (wrap64 (x7_1 - 1)) < (l0.length : Int) then (if ((Op.bytesLess (((rd_T71 l0 (wrap64 (x7_1 - 1))).f0).toList) (((rd_T71 l0 x7_1).f0).toList)) = true) then (item_Check.l0 k1 l0 l0 (l0.length : Int) (wrap64 (x7_1 + 1))) else (some 4)) else (none)) else (none)) else (item_Check.l0 k1 l0 l0 (l0.length : Int) (wrap64 (x7_1 + 1)))) = some r := by rw [if_pos rfl] at H; exact H
       clear H
       have H := H1
       clear H1
       by_cases c7 : x7_1 > 0
       ·rw [if_pos c7] at H
        have c7b0 : decide (0 < x7_1) = true := decide_eq_true c7
        clear c7
        obtain ⟨ji8, hji8⟩ : ∃ j_ : Int, (wrap64 (x7_1 - 1)) = j_ := ⟨_, rfl⟩
        replace H : (if 0 ≤ (ji8) then (if (ji8) < (l0.length : Int) then (if ((Op.bytesLess (((rd_T71 l0 (ji8)).f0).toList) (((rd_T71 l0 x7_1).f0).toList)) = true) then (item_Check.l0 k1 l0 l0 (l0.length : Int) (wrap64 (x7_1 + 1))) else (some 4)) else (none)) else (none)) = some r := by first | (rw [hji8] at H; exact H) | (simp only [hji8] at H ⊢; exact H)
        (try rw [hji8] at A5)
        have hji8w : (IntKind.i64.wrap (x7_1 - 1)) = ji8 := (i64_w _).trans hji8
        by_cases c9 : 0 ≤ (ji8)
        ·rw [if_pos c9] at H
         have c9b0 : decide (0 ≤ (ji8)) = true := decide_eq_true c9
         clear c9
         by_cases c10 : (ji8) < (l0.length : Int)
         ·rw [if_pos c10] at H
          have c10b0 : decide ((ji8) < (l0.length : Int)) = true := decide_eq_true c10
          clear c10
          by_cases c11 : ((Op.bytesLess (((rd_T71 l0 (ji8)).f0).toList) (((rd_T71 l0 x7_1).f0).toList)) = true)
          ·rw [if_pos c11] at H
           have c11b0 : (Op.bytesLess (((rd_T71 l0 (ji8)).f0).toList) (((rd_T71 l0 x7_1).f0).toList)) = true := c11
           clear c11
           have H' := Aside0.mk H
           clear H
           have p114 : 0 ≤ (x7_1 : Int) := of_decide_eq_true (by first | (with_reducible assumption) | assumption)
           have q114 : x7_1 < (l0.length : Int) := of_decide_eq_true (by first | (with_reducible assumption) | assumption)
           obtain ⟨ad114, e114, hx114_0, hx114_1⟩ := at_T71 HR0.out x7_1 p114 q114
           cases e114
           replace hx114_0 := (HB.out.cell (World.block_lt_of_cell? w _ hx114_0)).trans hx114_0
           replace hx114_1 := (HB.out.cell (World.block_lt_of_cell? w _ hx114_1)).trans hx114_1
           replace p114 := eq_true p114
           replace q114 := eq_true q114
           go_wp2_with (first | ((with_reducible refine gate_dst (N := 4) rfl ?_); refine bx_ (N := 4) (cs := #[.string (⟨#[]⟩ : ByteArray), .string (⟨#[]⟩ : ByteArray)]) (t := 71) ?_; intro gb115 hg w12 hbox hb; have BK115 := Aside0.mk (hbox); have GW115 := ge_ hg; have GE115 := ge_ hg; replace HB := hb_ hb; clear hb hbox hg; obtain ⟨hcz13_0, hcz13_1⟩ := cl2_ BK115; obtain ⟨hfz13_0, hfz13_1⟩ := fz2_ BK115) | (go_at_call 51; (with_reducible refine (item_right.calls ((rd_T71 l0 x7_1).f0) ((rd_T71 l0 x7_1).f1) true _ A5.out).mono ?_); rintro e w' ⟨rfl, ⟨nd, rfl⟩⟩; (try first | exact ⟨rfl, _, World.drewN_drewN _ _ _⟩ | exact ⟨rfl, _, Eq.trans (World.drewN_drewN _ _ _) (congrArg (World.drewN _) (Nat.add_assoc _ _ _))⟩); have p117 : 0 ≤ ((ji8) : Int) := of_decide_eq_true (by first | (with_reducible assumption) | assumption); have q117 : (ji8) < (l0.length : Int) := of_decide_eq_true (by first | (with_reducible assumption) | assumption); obtain ⟨ad117, e117, hx117_0, hx117_1⟩ := at_T71 HR0.out (ji8) p117 q117; obtain rfl : ad114 = ad117 := (by injection e117); have hn117_0 : ad114.block ≠ gb115 := Nat.ne_of_lt (Nat.lt_of_lt_of_le (by have := World.block_lt_of_cell? _ _ hx117_0; first | rwa [add_block] at this | exact this) GW115.out); have hn117_1 : ad114.block ≠ gb115 := Nat.ne_of_lt (Nat.lt_of_lt_of_le (by have := World.block_lt_of_cell? _ _ hx117_0; first | rwa [add_block] at this | exact this) GW115.out); replace hx117_0 := (HB.out.cell (World.block_lt_of_cell? w _ hx117_0)).trans hx117_0; replace hx117_1 := (HB.out.cell (World.block_lt_of_cell? w _ hx117_1)).trans hx117_1; replace hx117_0 := (cell_far (p := ⟨gb115, 0, none⟩) (by first | (rw [add_block]; exact hn117_0) | (show (Addr.add _ _).block ≠ _; rw [add_block]; exact hn117_0) | exact hn117_0) (.string ((rd_T71 l0 x7_1).f0))).trans hx117_0; replace hx117_1 := (cell_far (p := ⟨gb115, 0, none⟩) (by first | (rw [add_block]; exact hn117_0) | (show (Addr.add _ _).block ≠ _; rw [add_block]; exact hn117_0) | exact hn117_0) (.string ((rd_T71 l0 x7_1).f0))).trans hx117_1; replace hx117_0 := (cell_far (p := ⟨gb115, 1, none⟩) (by first | (rw [add_block]; exact hn117_1) | (show (Addr.add _ _).block ≠ _; rw [add_block]; exact hn117_1) | exact hn117_1) (.string ((rd_T71 l0 x7_1).f1))).trans hx117_0; replace hx117_1 := (cell_far (p := ⟨gb115, 1, none⟩) (by first | (rw [add_block]; exact hn117_1) | (show (Addr.add _ _).block ≠ _; rw [add_block]; exact hn117_1) | exact hn117_1) (.string ((rd_T71 l0 x7_1).f1))).trans hx117_1; (try have hy117_0 := fun (n_ : Nat) => (show ((((w12.drewN n_).setCell ⟨gb115, 0, none⟩ (.string ((rd_T71 l0 x7_1).f0))).setCell ⟨gb115, 1, none⟩ (.string ((rd_T71 l0 x7_1).f1)))).cell? _ = some _ from hx117_0)); (try have hy117_1 := fun (n_ : Nat) => (show ((((w12.drewN n_).setCell ⟨gb115, 0, none⟩ (.string ((rd_T71 l0 x7_1).f0))).setCell ⟨gb115, 1, none⟩ (.string ((rd_T71 l0 x7_1).f1)))).cell? _ = some _ from hx117_1)); clear hn117_0; clear hn117_1; replace p117 := eq_true p117; replace q117 := eq_true q117))
           repeat (go_quiet (first | ((with_reducible refine gate_dst (N := 4) rfl ?_); refine bx_ (N := 4) (cs := #[.string (⟨#[]⟩ : ByteArray), .string (⟨#[]⟩ : ByteArray)]) (t := 71) ?_; intro gb115 hg w12 hbox hb; have n0_ := Aside0.mk (below_step bel_ hb); have n1_ := Aside0.mk (hbox); have n2_ := Aside0.mk ((by rw [hg]; exact (below_size bel_) : w.heap.size ≤ gb115)); have n3_ := Aside0.mk ((by rw [hg]; exact (below_size bel_) : w.heap.size ≤ gb115)); clear HB; have HB := n0_; have BK115 := n1_; have GW115 := n2_; have GE115 := n3_; clear n0_ n1_ n2_ n3_; clear hb hbox hg; have hcz13_0 : w12.cell? ⟨gb115, 0, none⟩ = some (.string (⟨#[]⟩ : ByteArray)) := (blk_cell BK115.out 0).trans rfl; have hcz13_1 : w12.cell? ⟨gb115, 1, none⟩ = some (.string (⟨#[]⟩ : ByteArray)) := (blk_cell BK115.out 1).trans rfl; have hfz13_0 := blk_frozen BK115.out 0; have hfz13_1 := blk_frozen BK115.out 1) | (go_at_call 51; (with_reducible refine (item_right.calls ((rd_T71 l0 x7_1).f0) ((rd_T71 l0 x7_1).f1) true _ A5.out).mono ?_); rintro e w' ⟨rfl, ⟨nd, rfl⟩⟩; (try first | exact ⟨rfl, _, World.drewN_drewN _ _ _⟩ | exact ⟨rfl, _, Eq.trans (World.drewN_drewN _ _ _) (congrArg (World.drewN _) (Nat.add_assoc _ _ _))⟩); have p117 : 0 ≤ ((ji8) : Int) := of_decide_eq_true (by first | (with_reducible assumption) | assumption); have q117 : (ji8) < (l0.length : Int) := of_decide_eq_true (by first | (with_reducible assumption) | assumption); obtain ⟨ad117, e117, hx117_0, hx117_1⟩ := at_T71 HR0.out (ji8) p117 q117; obtain rfl : ad114 = ad117 := (by injection e117); have hn117_0 : ad114.block ≠ gb115 := Nat.ne_of_lt (Nat.lt_of_lt_of_le (by have := World.block_lt_of_cell? _ _ hx117_0; first | rwa [add_block] at this | exact this) GW115.out); have hn117_1 : ad114.block ≠ gb115 := Nat.ne_of_lt (Nat.lt_of_lt_of_le (by have := World.block_lt_of_cell? _ _ hx117_0; first | rwa [add_block] at this | exact this) GW115.out); replace hx117_0 := (HB.out.cell (World.block_lt_of_cell? w _ hx117_0)).trans hx117_0; replace hx117_1 := (HB.out.cell (World.block_lt_of_cell? w _ hx117_1)).trans hx117_1; replace hx117_0 := (cell_far (p := ⟨gb115, 0, none⟩) (by first | (rw [add_block]; exact hn117_0) | (show (Addr.add _ _).block ≠ _; rw [add_block]; exact hn117_0) | exact hn117_0) (.string ((rd_T71 l0 x7_1).f0))).trans hx117_0; replace hx117_1 := (cell_far (p := ⟨gb115, 0, none⟩) (by first | (rw [add_block]; exact hn117_0) | (show (Addr.add _ _).block ≠ _; rw [add_block]; exact hn117_0) | exact hn117_0) (.string ((rd_T71 l0 x7_1).f0))).trans hx117_1; replace hx117_0 := (cell_far (p := ⟨gb115, 1, none⟩) (by first | (rw [add_block]; exact hn117_1) | (show (Addr.add _ _).block ≠ _; rw [add_block]; exact hn117_1) | exact hn117_1) (.string ((rd_T71 l0 x7_1).f1))).trans hx117_0; replace hx117_1 := (cell_far (p := ⟨gb115, 1, none⟩) (by first | (rw [add_block]; exact hn117_1) | (show (Addr.add _ _).block ≠ _; rw [add_block]; exact hn117_1) | exact hn117_1) (.string ((rd_T71 l0 x7_1).f1))).trans hx117_1; (try have hy117_0 := fun (n_ : Nat) => (show ((((w12.drewN n_).setCell ⟨gb115, 0, none⟩ (.string ((rd_T71 l0 x7_1).f0))).setCell ⟨gb115, 1, none⟩ (.string ((rd_T71 l0 x7_1).f1)))).cell? _ = some _ from hx117_0)); (try have hy117_1 := fun (n_ : Nat) => (show ((((w12.drewN n_).setCell ⟨gb115, 0, none⟩ (.string ((rd_T71 l0 x7_1).f0))).setCell ⟨gb115, 1, none⟩ (.string ((rd_T71 l0 x7_1).f1)))).cell? _ = some _ from hx117_1)); clear hn117_0; clear hn117_1; replace p117 := eq_true p117; replace q117 := eq_true q117)); try go_wp2_with (first | ((with_reducible refine gate_dst (N := 4) rfl ?_); refine bx_ (N := 4) (cs := #[.string (⟨#[]⟩ : ByteArray), .string (⟨#[]⟩ : ByteArray)]) (t := 71) ?_; intro gb115 hg w12 hbox hb; have BK115 := Aside0.mk (hbox); have GW115 := ge_ hg; have GE115 := ge_ hg; replace HB := hb_ hb; clear hb hbox hg; obtain ⟨hcz13_0, hcz13_1⟩ := cl2_ BK115; obtain ⟨hfz13_0, hfz13_1⟩ := fz2_ BK115) | (go_at_call 51; (with_reducible refine (item_right.calls ((rd_T71 l0 x7_1).f0) ((rd_T71 l0 x7_1).f1) true _ A5.out).mono ?_); rintro e w' ⟨rfl, ⟨nd, rfl⟩⟩; (try first | exact ⟨rfl, _, World.drewN_drewN _ _ _⟩ | exact ⟨rfl, _, Eq.trans (World.drewN_drewN _ _ _) (congrArg (World.drewN _) (Nat.add_assoc _ _ _))⟩); have p117 : 0 ≤ ((ji8) : Int) := of_decide_eq_true (by first | (with_reducible assumption) | assumption); have q117 : (ji8) < (l0.length : Int) := of_decide_eq_true (by first | (with_reducible assumption) | assumption); obtain ⟨ad117, e117, hx117_0, hx117_1⟩ := at_T71 HR0.out (ji8) p117 q117; obtain rfl : ad114 = ad117 := (by injection e117); have hn117_0 : ad114.block ≠ gb115 := Nat.ne_of_lt (Nat.lt_of_lt_of_le (by have := World.block_lt_of_cell? _ _ hx117_0; first | rwa [add_block] at this | exact this) GW115.out); have hn117_1 : ad114.block ≠ gb115 := Nat.ne_of_lt (Nat.lt_of_lt_of_le (by have := World.block_lt_of_cell? _ _ hx117_0; first | rwa [add_block] at this | exact this) GW115.out); replace hx117_0 := (HB.out.cell (World.block_lt_of_cell? w _ hx117_0)).trans hx117_0; replace hx117_1 := (HB.out.cell (World.block_lt_of_cell? w _ hx117_1)).trans hx117_1; replace hx117_0 := (cell_far (p := ⟨gb115, 0, none⟩) (by first | (rw [add_block]; exact hn117_0) | (show (Addr.add _ _).block ≠ _; rw [add_block]; exact hn117_0) | exact hn117_0) (.string ((rd_T71 l0 x7_1).f0))).trans hx117_0; replace hx117_1 := (cell_far (p := ⟨gb115, 0, none⟩) (by first | (rw [add_block]; exact hn117_0) | (show (Addr.add _ _).block ≠ _; rw [add_block]; exact hn117_0) | exact hn117_0) (.string ((rd_T71 l0 x7_1).f0))).trans hx117_1; replace hx117_0 := (cell_far (p := ⟨gb115, 1, none⟩) (by first | (rw [add_block]; exact hn117_1) | (show (Addr.add _ _).block ≠ _; rw [add_block]; exact hn117_1) | exact hn117_1) (.string ((rd_T71 l0 x7_1).f1))).trans hx117_0; replace hx117_1 := (cell_far (p := ⟨gb115, 1, none⟩) (by first | (rw [add_block]; exact hn117_1) | (show (Addr.add _ _).block ≠ _; rw [add_block]; exact hn117_1) | exact hn117_1) (.string ((rd_T71 l0 x7_1).f1))).trans hx117_1; (try have hy117_0 := fun (n_ : Nat) => (show ((((w12.drewN n_).setCell ⟨gb115, 0, none⟩ (.string ((rd_T71 l0 x7_1).f0))).setCell ⟨gb115, 1, none⟩ (.string ((rd_T71 l0 x7_1).f1)))).cell? _ = some _ from hx117_0)); (try have hy117_1 := fun (n_ : Nat) => (show ((((w12.drewN n_).setCell ⟨gb115, 0, none⟩ (.string ((rd_T71 l0 x7_1).f0))).setCell ⟨gb115, 1, none⟩ (.string ((rd_T71 l0 x7_1).f1)))).cell? _ = some _ from hx117_1)); clear hn117_0; clear hn117_1; replace p117 := eq_true p117; replace q117 := eq_true q117)))
           go_roundg k1
           case measure => have := HK1.out; omega
           case rel => exact ⟨(wrap64 (x7_1 + 1)), (by first | rfl | (simp; done) | (simp [*]; done)), H', ⟨by have := HK1.out; omega⟩, ⟨bel_⟩⟩
          rw [if_neg c11] at H
          have c11b0 : (Op.bytesLess (((rd_T71 l0 (ji8)).f0).toList) (((rd_T71 l0 x7_1).f0).toList)) = false := by simpa using c11
          clear c11
          obtain rfl := Option.some.inj H
          have p114 : 0 ≤ (x7_1 : Int) := of_decide_eq_true (by first | (with_reducible assumption) | assumption)
          have q114 : x7_1 < (l0.length : Int) := of_decide_eq_true (by first | (with_reducible assumption) | assumption)
          obtain ⟨ad114, e114, hx114_0, hx114_1⟩ := at_T71 HR0.out x7_1 p114 q114
          cases e114
          replace hx114_0 := (HB.out.cell (World.block_lt_of_cell? w _ hx114_0)).trans hx114_0
          replace hx114_1 := (HB.out.cell (World.block_lt_of_cell? w _ hx114_1)).trans hx114_1
          replace p114 := eq_true p114
          replace q114 := eq_true q114
          go_wp2_with (first | ((with_reducible refine gate_dst (N := 4) rfl ?_); refine bx_ (N := 4) (cs := #[.string (⟨#[]⟩ : ByteArray), .string (⟨#[]⟩ : ByteArray)]) (t := 71) ?_; intro gb115 hg w14 hbox hb; have BK115 := Aside0.mk (hbox); have GW115 := ge_ hg; have GE115 := ge_ hg; replace HB := hb_ hb; clear hb hbox hg; obtain ⟨hcz15_0, hcz15_1⟩ := cl2_ BK115; obtain ⟨hfz15_0, hfz15_1⟩ := fz2_ BK115) | (go_at_call 51; (with_reducible refine (item_right.calls ((rd_T71 l0 x7_1).f0) ((rd_T71 l0 x7_1).f1) true _ A5.out).mono ?_); rintro e w' ⟨rfl, ⟨nd, rfl⟩⟩; (try first | exact ⟨rfl, _, World.drewN_drewN _ _ _⟩ | exact ⟨rfl, _, Eq.trans (World.drewN_drewN _ _ _) (congrArg (World.drewN _) (Nat.add_assoc _ _ _))⟩); have p117 : 0 ≤ ((ji8) : Int) := of_decide_eq_true (by first | (with_reducible assumption) | assumption); have q117 : (ji8) < (l0.length : Int) := of_decide_eq_true (by first | (with_reducible assumption) | assumption); obtain ⟨ad117, e117, hx117_0, hx117_1⟩ := at_T71 HR0.out (ji8) p117 q117; obtain rfl : ad114 = ad117 := (by injection e117); have hn117_0 : ad114.block ≠ gb115 := Nat.ne_of_lt (Nat.lt_of_lt_of_le (by have := World.block_lt_of_cell? _ _ hx117_0; first | rwa [add_block] at this | exact this) GW115.out); have hn117_1 : ad114.block ≠ gb115 := Nat.ne_of_lt (Nat.lt_of_lt_of_le (by have := World.block_lt_of_cell? _ _ hx117_0; first | rwa [add_block] at this | exact this) GW115.out); replace hx117_0 := (HB.out.cell (World.block_lt_of_cell? w _ hx117_0)).trans hx117_0; replace hx117_1 := (HB.out.cell (World.block_lt_of_cell? w _ hx117_1)).trans hx117_1; replace hx117_0 := (cell_far (p := ⟨gb115, 0, none⟩) (by first | (rw [add_block]; exact hn117_0) | (show (Addr.add _ _).block ≠ _; rw [add_block]; exact hn117_0) | exact hn117_0) (.string ((rd_T71 l0 x7_1).f0))).trans hx117_0; replace hx117_1 := (cell_far (p := ⟨gb115, 0, none⟩) (by first | (rw [add_block]; exact hn117_0) | (show (Addr.add _ _).block ≠ _; rw [add_block]; exact hn117_0) | exact hn117_0) (.string ((rd_T71 l0 x7_1).f0))).trans hx117_1; replace hx117_0 := (cell_far (p := ⟨gb115, 1, none⟩) (by first | (rw [add_block]; exact hn117_1) | (show (Addr.add _ _).block ≠ _; rw [add_block]; exact hn117_1) | exact hn117_1) (.string ((rd_T71 l0 x7_1).f1))).trans hx117_0; replace hx117_1 := (cell_far (p := ⟨gb115, 1, none⟩) (by first | (rw [add_block]; exact hn117_1) | (show (Addr.add _ _).block ≠ _; rw [add_block]; exact hn117_1) | exact hn117_1) (.string ((rd_T71 l0 x7_1).f1))).trans hx117_1; (try have hy117_0 := fun (n_ : Nat) => (show ((((w14.drewN n_).setCell ⟨gb115, 0, none⟩ (.string ((rd_T71 l0 x7_1).f0))).setCell ⟨gb115, 1, none⟩ (.string ((rd_T71 l0 x7_1).f1)))).cell? _ = some _ from hx117_0)); (try have hy117_1 := fun (n_ : Nat) => (show ((((w14.drewN n_).setCell ⟨gb115, 0, none⟩ (.string ((rd_T71 l0 x7_1).f0))).setCell ⟨gb115, 1, none⟩ (.string ((rd_T71 l0 x7_1).f1)))).cell? _ = some _ from hx117_1)); clear hn117_0; clear hn117_1; replace p117 := eq_true p117; replace q117 := eq_true q117))
          repeat (go_quiet (first | ((with_reducible refine gate_dst (N := 4) rfl ?_); refine bx_ (N := 4) (cs := #[.string (⟨#[]⟩ : ByteArray), .string (⟨#[]⟩ : ByteArray)]) (t := 71) ?_; intro gb115 hg w14 hbox hb; have n0_ := Aside0.mk (below_step bel_ hb); have n1_ := Aside0.mk (hbox); have n2_ := Aside0.mk ((by rw [hg]; exact (below_size bel_) : w.heap.size ≤ gb115)); have n3_ := Aside0.mk ((by rw [hg]; exact (below_size bel_) : w.heap.size ≤ gb115)); clear HB; have HB := n0_; have BK115 := n1_; have GW115 := n2_; have GE115 := n3_; clear n0_ n1_ n2_ n3_; clear hb hbox hg; have hcz15_0 : w14.cell? ⟨gb115, 0, none⟩ = some (.string (⟨#[]⟩ : ByteArray)) := (blk_cell BK115.out 0).trans rfl; have hcz15_1 : w14.cell? ⟨gb115, 1, none⟩ = some (.string (⟨#[]⟩ : ByteArray)) := (blk_cell BK115.out 1).trans rfl; have hfz15_0 := blk_frozen BK115.out 0; have hfz15_1 := blk_frozen BK115.out 1) | (go_at_call 51; (with_reducible refine (item_right.calls ((rd_T71 l0 x7_1).f0) ((rd_T71 l0 x7_1).f1) true _ A5.out).mono ?_); rintro e w' ⟨rfl, ⟨nd, rfl⟩⟩; (try first | exact ⟨rfl, _, World.drewN_drewN _ _ _⟩ | exact ⟨rfl, _, Eq.trans (World.drewN_drewN _ _ _) (congrArg (World.drewN _) (Nat.add_assoc _ _ _))⟩); have p117 : 0 ≤ ((ji8) : Int) := of_decide_eq_true (by first | (with_reducible assumption) | assumption); have q117 : (ji8) < (l0.length : Int) := of_decide_eq_true (by first | (with_reducible assumption) | assumption); obtain ⟨ad117, e117, hx117_0, hx117_1⟩ := at_T71 HR0.out (ji8) p117 q117; obtain rfl : ad114 = ad117 := (by injection e117); have hn117_0 : ad114.block ≠ gb115 := Nat.ne_of_lt (Nat.lt_of_lt_of_le (by have := World.block_lt_of_cell? _ _ hx117_0; first | rwa [add_block] at this | exact this) GW115.out); have hn117_1 : ad114.block ≠ gb115 := Nat.ne_of_lt (Nat.lt_of_lt_of_le (by have := World.block_lt_of_cell? _ _ hx117_0; first | rwa [add_block] at this | exact this) GW115.out); replace hx117_0 := (HB.out.cell (World.block_lt_of_cell? w _ hx117_0)).trans hx117_0; replace hx117_1 := (HB.out.cell (World.block_lt_of_cell? w _ hx117_1)).trans hx117_1; replace hx117_0 := (cell_far (p := ⟨gb115, 0, none⟩) (by first | (rw [add_block]; exact hn117_0) | (show (Addr.add _ _).block ≠ _; rw [add_block]; exact hn117_0) | exact hn117_0) (.string ((rd_T71 l0 x7_1).f0))).trans hx117_0; replace hx117_1 := (cell_far (p := ⟨gb115, 0, none⟩) (by first | (rw [add_block]; exact hn117_0) | (show (Addr.add _ _).block ≠ _; rw [add_block]; exact hn117_0) | exact hn117_0) (.string ((rd_T71 l0 x7_1).f0))).trans hx117_1; replace hx117_0 := (cell_far (p := ⟨gb115, 1, none⟩) (by first | (rw [add_block]; exact hn117_1) | (show (Addr.add _ _).block ≠ _; rw [add_block]; exact hn117_1) | exact hn117_1) (.string ((rd_T71 l0 x7_1).f1))).trans hx117_0; replace hx117_1 := (cell_far (p := ⟨gb115, 1, none⟩) (by first | (rw [add_block]; exact hn117_1) | (show (Addr.add _ _).block ≠ _; rw [add_block]; exact hn117_1) | exact hn117_1) (.string ((rd_T71 l0 x7_1).f1))).trans hx117_1; (try have hy117_0 := fun (n_ : Nat) => (show ((((w14.drewN n_).setCell ⟨gb115, 0, none⟩ (.string ((rd_T71 l0 x7_1).f0))).setCell ⟨gb115, 1, none⟩ (.string ((rd_T71 l0 x7_1).f1)))).cell? _ = some _ from hx117_0)); (try have hy117_1 := fun (n_ : Nat) => (show ((((w14.drewN n_).setCell ⟨gb115, 0, none⟩ (.string ((rd_T71 l0 x7_1).f0))).setCell ⟨gb115, 1, none⟩ (.string ((rd_T71 l0 x7_1).f1)))).cell? _ = some _ from hx117_1)); clear hn117_0; clear hn117_1; replace p117 := eq_true p117; replace q117 := eq_true q117)); try go_wp2_with (first | ((with_reducible refine gate_dst (N := 4) rfl ?_); refine bx_ (N := 4) (cs := #[.string (⟨#[]⟩ : ByteArray), .string (⟨#[]⟩ : ByteArray)]) (t := 71) ?_; intro gb115 hg w14 hbox hb; have BK115 := Aside0.mk (hbox); have GW115 := ge_ hg; have GE115 := ge_ hg; replace HB := hb_ hb; clear hb hbox hg; obtain ⟨hcz15_0, hcz15_1⟩ := cl2_ BK115; obtain ⟨hfz15_0, hfz15_1⟩ := fz2_ BK115) | (go_at_call 51; (with_reducible refine (item_right.calls ((rd_T71 l0 x7_1).f0) ((rd_T71 l0 x7_1).f1) true _ A5.out).mono ?_); rintro e w' ⟨rfl, ⟨nd, rfl⟩⟩; (try first | exact ⟨rfl, _, World.drewN_drewN _ _ _⟩ | exact ⟨rfl, _, Eq.trans (World.drewN_drewN _ _ _) (congrArg (World.drewN _) (Nat.add_assoc _ _ _))⟩); have p117 : 0 ≤ ((ji8) : Int) := of_decide_eq_true (by first | (with_reducible assumption) | assumption); have q117 : (ji8) < (l0.length : Int) := of_decide_eq_true (by first | (with_reducible assumption) | assumption); obtain ⟨ad117, e117, hx117_0, hx117_1⟩ := at_T71 HR0.out (ji8) p117 q117; obtain rfl : ad114 = ad117 := (by injection e117); have hn117_0 : ad114.block ≠ gb115 := Nat.ne_of_lt (Nat.lt_of_lt_of_le (by have := World.block_lt_of_cell? _ _ hx117_0; first | rwa [add_block] at this | exact this) GW115.out); have hn117_1 : ad114.block ≠ gb115 := Nat.ne_of_lt (Nat.lt_of_lt_of_le (by have := World.block_lt_of_cell? _ _ hx117_0; first | rwa [add_block] at this | exact this) GW115.out); replace hx117_0 := (HB.out.cell (World.block_lt_of_cell? w _ hx117_0)).trans hx117_0; replace hx117_1 := (HB.out.cell (World.block_lt_of_cell? w _ hx117_1)).trans hx117_1; replace hx117_0 := (cell_far (p := ⟨gb115, 0, none⟩) (by first | (rw [add_block]; exact hn117_0) | (show (Addr.add _ _).block ≠ _; rw [add_block]; exact hn117_0) | exact hn117_0) (.string ((rd_T71 l0 x7_1).f0))).trans hx117_0; replace hx117_1 := (cell_far (p := ⟨gb115, 0, none⟩) (by first | (rw [add_block]; exact hn117_0) | (show (Addr.add _ _).block ≠ _; rw [add_block]; exact hn117_0) | exact hn117_0) (.string ((rd_T71 l0 x7_1).f0))).trans hx117_1; replace hx117_0 := (cell_far (p := ⟨gb115, 1, none⟩) (by first | (rw [add_block]; exact hn117_1) | (show (Addr.add _ _).block ≠ _; rw [add_block]; exact hn117_1) | exact hn117_1) (.string ((rd_T71 l0 x7_1).f1))).trans hx117_0; replace hx117_1 := (cell_far (p := ⟨gb115, 1, none⟩) (by first | (rw [add_block]; exact hn117_1) | (show (Addr.add _ _).block ≠ _; rw [add_block]; exact hn117_1) | exact hn117_1) (.string ((rd_T71 l0 x7_1).f1))).trans hx117_1; (try have hy117_0 := fun (n_ : Nat) => (show ((((w14.drewN n_).setCell ⟨gb115, 0, none⟩ (.string ((rd_T71 l0 x7_1).f0))).setCell ⟨gb115, 1, none⟩ (.string ((rd_T71 l0 x7_1).f1)))).cell? _ = some _ from hx117_0)); (try have hy117_1 := fun (n_ : Nat) => (show ((((w14.drewN n_).setCell ⟨gb115, 0, none⟩ (.string ((rd_T71 l0 x7_1).f0))).setCell ⟨gb115, 1, none⟩ (.string ((rd_T71 l0 x7_1).f1)))).cell? _ = some _ from hx117_1)); clear hn117_0; clear hn117_1; replace p117 := eq_true p117; replace q117 := eq_true q117)))
          go_ret
          exact ⟨by first | rfl | (simp [errW_none, errW_some] <;> rfl) | (simp only [← hji8]; first | rfl | (simp [errW_none, errW_some] <;> rfl)) | (simp [*, errW_none, errW_some] <;> rfl), bel_⟩
         rw [if_neg c10] at H
         exact absurd H (by simp)
        rw [if_neg c9] at H
        exact absurd H (by simp)
       rw [if_neg c7] at H
       have c7b0 : decide (0 < x7_1) = false := decide_eq_false c7
       clear c7
       have H' := Aside0.mk H
       clear H
       have p114 : 0 ≤ (x7_1 : Int) := of_decide_eq_true (by first | (with_reducible assumption) | assumption)
       have q114 : x7_1 < (l0.length : Int) := of_decide_eq_true (by first | (with_reducible assumption) | assumption)
       obtain ⟨ad114, e114, hx114_0, hx114_1⟩ := at_T71 HR0.out x7_1 p114 q114
       cases e114
       replace hx114_0 := (HB.out.cell (World.block_lt_of_cell? w _ hx114_0)).trans hx114_0
       replace hx114_1 := (HB.out.cell (World.block_lt_of_cell? w _ hx114_1)).trans hx114_1
       replace p114 := eq_true p114
       replace q114 := eq_true q114
       go_wp2_with (first | ((with_reducible refine gate_dst (N := 4) rfl ?_); refine bx_ (N := 4) (cs := #[.string (⟨#[]⟩ : ByteArray), .string (⟨#[]⟩ : ByteArray)]) (t := 71) ?_; intro gb115 hg w16 hbox hb; have BK115 := Aside0.mk (hbox); have GW115 := ge_ hg; have GE115 := ge_ hg; replace HB := hb_ hb; clear hb hbox hg; obtain ⟨hcz17_0, hcz17_1⟩ := cl2_ BK115; obtain ⟨hfz17_0, hfz17_1⟩ := fz2_ BK115) | (go_at_call 51; (with_reducible refine (item_right.calls ((rd_T71 l0 x7_1).f0) ((rd_T71 l0 x7_1).f1) true _ A5.out).mono ?_); rintro e w' ⟨rfl, ⟨nd, rfl⟩⟩; (try first | exact ⟨rfl, _, World.drewN_drewN _ _ _⟩ | exact ⟨rfl, _, Eq.trans (World.drewN_drewN _ _ _) (congrArg (World.drewN _) (Nat.add_assoc _ _ _))⟩)))
       repeat (go_quiet (first | ((with_reducible refine gate_dst (N := 4) rfl ?_); refine bx_ (N := 4) (cs := #[.string (⟨#[]⟩ : ByteArray), .string (⟨#[]⟩ : ByteArray)]) (t := 71) ?_; intro gb115 hg w16 hbox hb; have n0_ := Aside0.mk (below_step bel_ hb); have n1_ := Aside0.mk (hbox); have n2_ := Aside0.mk ((by rw [hg]; exact (below_size bel_) : w.heap.size ≤ gb115)); have n3_ := Aside0.mk ((by rw [hg]; exact (below_size bel_) : w.heap.size ≤ gb115)); clear HB; have HB := n0_; have BK115 := n1_; have GW115 := n2_; have GE115 := n3_; clear n0_ n1_ n2_ n3_; clear hb hbox hg; have hcz17_0 : w16.cell? ⟨gb115, 0, none⟩ = some (.string (⟨#[]⟩ : ByteArray)) := (blk_cell BK115.out 0).trans rfl; have hcz17_1 : w16.cell? ⟨gb115, 1, none⟩ = some (.string (⟨#[]⟩ : ByteArray)) := (blk_cell BK115.out 1).trans rfl; have hfz17_0 := blk_frozen BK115.out 0; have hfz17_1 := blk_frozen BK115.out 1) | (go_at_call 51; (with_reducible refine (item_right.calls ((rd_T71 l0 x7_1).f0) ((rd_T71 l0 x7_1).f1) true _ A5.out).mono ?_); rintro e w' ⟨rfl, ⟨nd, rfl⟩⟩; (try first | exact ⟨rfl, _, World.drewN_drewN _ _ _⟩ | exact ⟨rfl, _, Eq.trans (World.drewN_drewN _ _ _) (congrArg (World.drewN _) (Nat.add_assoc _ _ _))⟩))); try go_wp2_with (first | ((with_reducible refine gate_dst (N := 4) rfl ?_); refine bx_ (N := 4) (cs := #[.string (⟨#[]⟩ : ByteArray), .string (⟨#[]⟩ : ByteArray)]) (t := 71) ?_; intro gb115 hg w16 hbox hb; have BK115 := Aside0.mk (hbox); have GW115 := ge_ hg; have GE115 := ge_ hg; replace HB := hb_ hb; clear hb hbox hg; obtain ⟨hcz17_0, hcz17_1⟩ := cl2_ BK115; obtain ⟨hfz17_0, hfz17_1⟩ := fz2_ BK115) | (go_at_call 51; (with_reducible refine (item_right.calls ((rd_T71 l0 x7_1).f0) ((rd_T71 l0 x7_1).f1) true _ A5.out).mono ?_); rintro e w' ⟨rfl, ⟨nd, rfl⟩⟩; (try first | exact ⟨rfl, _, World.drewN_drewN _ _ _⟩ | exact ⟨rfl, _, Eq.trans (World.drewN_drewN _ _ _) (congrArg (World.drewN _) (Nat.add_assoc _ _ _))⟩))))
       go_roundg k1
       case measure => have := HK1.out; omega
       case rel => exact ⟨(wrap64 (x7_1 + 1)), (by first | rfl | (simp; done) | (simp [*]; done)), H', ⟨by have := HK1.out; omega⟩, ⟨bel_⟩⟩
      replace c6 := Bool.eq_false_iff.mpr c6
      subst c6
      have H1 : (some 4) = some r := by rw [if_neg (show ¬ (false = true) by decide)] at H; exact H
      clear H
      have H := H1
      clear H1
      obtain rfl := Option.some.inj H
      have p114 : 0 ≤ (x7_1 : Int) := of_decide_eq_true (by first | (with_reducible assumption) | assumption)
      have q114 : x7_1 < (l0.length : Int) := of_decide_eq_true (by first | (with_reducible assumption) | assumption)
      obtain ⟨ad114, e114, hx114_0, hx114_1⟩ := at_T71 HR0.out x7_1 p114 q114
      cases e114
      replace hx114_0 := (HB.out.cell (World.block_lt_of_cell? w _ hx114_0)).trans hx114_0
      replace hx114_1 := (HB.out.cell (World.block_lt_of_cell? w _ hx114_1)).trans hx114_1
      replace p114 := eq_true p114
      replace q114 := eq_true q114
      go_wp2_with (first | ((with_reducible refine gate_dst (N := 4) rfl ?_); refine bx_ (N := 4) (cs := #[.string (⟨#[]⟩ : ByteArray), .string (⟨#[]⟩ : ByteArray)]) (t := 71) ?_; intro gb115 hg w18 hbox hb; have BK115 := Aside0.mk (hbox); have GW115 := ge_ hg; have GE115 := ge_ hg; replace HB := hb_ hb; clear hb hbox hg; obtain ⟨hcz19_0, hcz19_1⟩ := cl2_ BK115; obtain ⟨hfz19_0, hfz19_1⟩ := fz2_ BK115) | (go_at_call 51; (with_reducible refine (item_right.calls ((rd_T71 l0 x7_1).f0) ((rd_T71 l0 x7_1).f1) false _ A5.out).mono ?_); rintro e w' ⟨rfl, ⟨nd, rfl⟩⟩; (try first | exact ⟨rfl, _, World.drewN_drewN _ _ _⟩ | exact ⟨rfl, _, Eq.trans (World.drewN_drewN _ _ _) (congrArg (World.drewN _) (Nat.add_assoc _ _ _))⟩)))
      repeat (go_quiet (first | ((with_reducible refine gate_dst (N := 4) rfl ?_); refine bx_ (N := 4) (cs := #[.string (⟨#[]⟩ : ByteArray), .string (⟨#[]⟩ : ByteArray)]) (t := 71) ?_; intro gb115 hg w18 hbox hb; have n0_ := Aside0.mk (below_step bel_ hb); have n1_ := Aside0.mk (hbox); have n2_ := Aside0.mk ((by rw [hg]; exact (below_size bel_) : w.heap.size ≤ gb115)); have n3_ := Aside0.mk ((by rw [hg]; exact (below_size bel_) : w.heap.size ≤ gb115)); clear HB; have HB := n0_; have BK115 := n1_; have GW115 := n2_; have GE115 := n3_; clear n0_ n1_ n2_ n3_; clear hb hbox hg; have hcz19_0 : w18.cell? ⟨gb115, 0, none⟩ = some (.string (⟨#[]⟩ : ByteArray)) := (blk_cell BK115.out 0).trans rfl; have hcz19_1 : w18.cell? ⟨gb115, 1, none⟩ = some (.string (⟨#[]⟩ : ByteArray)) := (blk_cell BK115.out 1).trans rfl; have hfz19_0 := blk_frozen BK115.out 0; have hfz19_1 := blk_frozen BK115.out 1) | (go_at_call 51; (with_reducible refine (item_right.calls ((rd_T71 l0 x7_1).f0) ((rd_T71 l0 x7_1).f1) false _ A5.out).mono ?_); rintro e w' ⟨rfl, ⟨nd, rfl⟩⟩; (try first | exact ⟨rfl, _, World.drewN_drewN _ _ _⟩ | exact ⟨rfl, _, Eq.trans (World.drewN_drewN _ _ _) (congrArg (World.drewN _) (Nat.add_assoc _ _ _))⟩))); try go_wp2_with (first | ((with_reducible refine gate_dst (N := 4) rfl ?_); refine bx_ (N := 4) (cs := #[.string (⟨#[]⟩ : ByteArray), .string (⟨#[]⟩ : ByteArray)]) (t := 71) ?_; intro gb115 hg w18 hbox hb; have BK115 := Aside0.mk (hbox); have GW115 := ge_ hg; have GE115 := ge_ hg; replace HB := hb_ hb; clear hb hbox hg; obtain ⟨hcz19_0, hcz19_1⟩ := cl2_ BK115; obtain ⟨hfz19_0, hfz19_1⟩ := fz2_ BK115) | (go_at_call 51; (with_reducible refine (item_right.calls ((rd_T71 l0 x7_1).f0) ((rd_T71 l0 x7_1).f1) false _ A5.out).mono ?_); rintro e w' ⟨rfl, ⟨nd, rfl⟩⟩; (try first | exact ⟨rfl, _, World.drewN_drewN _ _ _⟩ | exact ⟨rfl, _, Eq.trans (World.drewN_drewN _ _ _) (congrArg (World.drewN _) (Nat.add_assoc _ _ _))⟩))))
      go_ret
      exact ⟨by first | rfl | (simp [errW_none, errW_some] <;> rfl) | (simp [*, errW_none, errW_some] <;> rfl), bel_⟩
     rw [if_neg c4] at H
     exact absurd H (by simp)
    rw [if_neg c3] at H
    exact absurd H (by simp)
   rw [if_neg c2] at H
   have c2b0 : decide (x7_1 < (l0.length : Int)) = false := decide_eq_false c2
   clear c2
   obtain rfl := Option.some.inj H
   go_wp2
   repeat (go_quiet (fail); try go_wp2)
   go_ret
   exact ⟨by first | rfl | (simp [errW_none, errW_some] <;> rfl) | (simp [*, errW_none, errW_some] <;> rfl), bel_⟩
end Go.Proofs.YthbljhmjppjcjaaGreatDoor.Z
end

section
/- dirs: (*Volume).parse (printed by genparse.py). -/
namespace Go.Proofs.YthbljhmjppjcjaaGreatDoor.Z
open Go.RowKit Go.Proofs.YthbljhmjppjcjaaGreatDoorW.PrintWords Go.Proofs.YthbljhmjppjcjaaGreatDoorW.PrintLast Go.Proofs.YthbljhmjppjcjaaGreatDoorW.PrintMore
set_option linter.unusedVariables false
set_option linter.unusedSimpArgs false
attribute [local go_sem ↓] Go.wp_at_zero Go.wp_at_succ
def VS.put1 (s : VS) (a : Int) (y : INd) : VS := { s with ino := fun c => if c = a then some y else s.ino c, n := s.n + 1 }
def VS.put2 (s : VS) (a : Int) (y : Int × Int) : VS := { s with up := fun c => if c = a then some y else s.up c, n := s.n + 1 }
def VS.add (s : VS) (x : KItm) : VS := { s with all := s.all ++ [x] }
def parseL (k : Nat) : List VIT → VS → Option (Option VS)
 | [], s => some (some s)
 | x :: r, s => (inode_Parse.f k x.f0).bind fun q => if q.2.2.2.2 = 0 then
   (if 0 ≤ q.2.1 ∧ q.2.1 < 4294967296 ∧ s.all.length < 4398046511104 then
    (if q.1 = 1 then (inode_Decode.f k x.f1).bind fun n => if n.2.2.2.2.2 = 0 then parseL k r ((s.add ⟨q.1, q.2.1, q.2.2.1, q.2.2.2.1, x.f1⟩).put1 q.2.1 ⟨n.1, n.2.1, n.2.2.1, n.2.2.2.1, n.2.2.2.2.1⟩) else some none
     else if q.1 = 2 then (dirs_number.f k x.f1).bind fun t => parseL k r ((s.add ⟨q.1, q.2.1, q.2.2.1, q.2.2.2.1, x.f1⟩).put2 t (wrap64 (((s.up t).getD (0, 0)).1 + 1), q.2.1))
     else parseL k r (s.add ⟨q.1, q.2.1, q.2.2.1, q.2.2.2.1, x.f1⟩)) else none) else some none
theorem parseL.mono : ∀ (l : List VIT) (s : VS) (k : Nat), LeO (parseL k l s) (parseL (k + 1) l s)
 | [], s, k => LeO.refl _
 | x :: r, s, k => by
  unfold parseL
  exact LeO.bind (inode_Parse.mono _ _) (fun q => LeO.ite (LeO.ite (LeO.ite (LeO.bind (inode_Decode.mono _ _) (fun n => LeO.ite (parseL.mono r _ k) (LeO.refl _))) (LeO.ite (LeO.bind (dirs_number.mono _ _) (fun t => parseL.mono r _ k)) (parseL.mono r _ k))) (LeO.none _)) (LeO.refl _))
def VS0 : VS := ⟨[], fun _ => none, fun _ => none, 0⟩
def parseF (k : Nat) (l : List VIT) : Option (Option VS) := (parseL k l VS0).bind fun o => match o with
 | none => some none
 | some s => (item_Check.f k l).bind fun c => if c = 0 ∧ ((s.ino 1).getD zI).kd = 1 then some (some s) else some none
theorem parseF.mono (l : List VIT) : ∀ k, LeO (parseF k l) (parseF (k + 1) l) := fun k => by
 unfold parseF
 refine LeO.bind (parseL.mono _ _ _) (fun o => ?_)
 cases o with
 | none => exact LeO.refl _
 | some s => exact LeO.bind (item_Check.mono _ _) (fun _ => LeO.refl _)
theorem info_kept : (Tryz.prog.info? 168).map (fun i => (i.zero, i.size, i.bytes)) = some (some (.agg #[.int .u8 0, .int .u32 0, .string ⟨#[]⟩, .int .u32 0, .string ⟨#[]⟩]), 5, 48) := by kernel_rfl
theorem VS0_ok : VS0.Ok := ⟨fun a q h => (by cases h), fun x h => (by cases h), by decide, by decide⟩
set_option maxRecDepth 100000 in
set_option maxHeartbeats 12800000 in
theorem parse_calls (k : Nat) (g : Nat) (A : Option Addr) (c : Nat) (l : List VIT) (d m sm : Int) (o : Option VS) (w : World) (hb : w.heap[g]? = some (volO (.slice A l.length c) (.slice none 0 0) (.map none) (.map none) d m sm false)) (hF : ∀ W', KeepBut w W' g none → Kd.C k71 W' A l.length l) (hc : l.length ≤ c) (h : parseF k l = some o) :
  Calls Tryz.prog 80 #[.pointer (some ⟨g, 0, none⟩)] w fun e w' => e = .returned (.bool o.isSome) ∧ Fr g w w' ∧ (∀ s, o = some s → VolR w' g w.heap.size (.slice A l.length c) d m sm false s) ∧ ∃ va vi vu, w'.heap[g]? = some (volO (.slice A l.length c) va vi vu d m sm false) := by
 have hlt := blk_lt hb
 unfold parseF at h
 obtain ⟨po, hpo, h⟩ := Option.bind_eq_some_iff.mp h
 have HPO := Aside0.mk hpo
 have HO := Aside0.mk h
 have HF := Aside0.mk hF
 have HCC := Aside0.mk hc
 have HLT := Aside0.mk hlt
 have HB := Aside0.mk hb
 have HMX := Aside0.mk (Kd.C_max (hF w (KeepBut.refl _ _ _)))
 have c6 : w.cell? ⟨g, 6, none⟩ = some (.map none) := (blk_cell hb 6).trans rfl
 clear hpo h hF hc hlt hb c6
 go_enter Tryz.func80, Tryz.ntmps80
 go_wp2_with (first
  | ((with_reducible refine gate_dst (N := 12) rfl ?_); refine map_event (k := 22) rfl 138 rfl ?_; intro bi hbi w1 hm1 hb1; have M1 := Aside0.mk hm1; have B1 := Aside0.mk hb1; have GI := Aside0.mk (show w.heap.size ≤ bi by omega); clear hm1 hb1 hbi)
  | ((with_reducible refine gate_dst (N := 13) rfl ?_); refine map_event (k := 22) rfl 139 rfl ?_; intro bu hbu w2 hm2 hb2; have M2 := Aside0.mk hm2; have B2 := Aside0.mk (below_step B1.out hb2); have N1 := Aside0.mk (M1.out.below hb2); have GU := Aside0.mk (show w.heap.size ≤ bu by have := B1.out.size; omega); have NE := Aside0.mk (show bi ≠ bu by have := M1.out.lt; omega); have G2 := Aside0.mk (blk_below HB.out B2.out); have c6 : w2.cell? ⟨g, 6, none⟩ = some (.map none) := (blk_cell G2.out 6).trans rfl; have c7 : (w2.setCell ⟨g, 6, none⟩ (.map (some bi))).cell? ⟨g, 7, none⟩ = some (.map none) := (blk_cell (blk_set G2.out 6 (.map (some bi))) 7).trans rfl; have f6 : w2.frozen? ⟨g, 6, none⟩ = false := blk_frozen G2.out 6; have f7 : w2.frozen? ⟨g, 7, none⟩ = false := blk_frozen G2.out 7; have c0 : ((w2.setCell ⟨g, 6, none⟩ (.map (some bi))).setCell ⟨g, 7, none⟩ (.map (some bu))).cell? ⟨g, 0, none⟩ = some (.slice A l.length c) := (blk_cell (blk_set (blk_set G2.out 6 (.map (some bi))) 7 (.map (some bu))) 0).trans rfl; clear hm2 hb2 hbu))
 have GN := Aside0.mk (show bi ≠ g ∧ bu ≠ g by have := GI.out; have := GU.out; have := HLT.out; omega)
 have V3 := Aside0.mk (show VolR ((w2.setCell ⟨g, 6, none⟩ (.map (some bi))).setCell ⟨g, 7, none⟩ (.map (some bu))) g w.heap.size (.slice A l.length c) d m sm false VS0 from
  ⟨.slice none 0 0, bi, bu, blk_set (blk_set G2.out 6 _) 7 _, Kd.R_nil _ _ _ _ _, (N1.out.move ((Below.heap_setCell _ ⟨g, 7, none⟩ _ bi GN.out.1).trans (Below.heap_setCell _ ⟨g, 6, none⟩ _ bi GN.out.1))).congr (fun _ => rfl), (M2.out.move ((Below.heap_setCell _ ⟨g, 7, none⟩ _ bu GN.out.2).trans (Below.heap_setCell _ ⟨g, 6, none⟩ _ bu GN.out.2))).congr (fun _ => rfl), GI.out, GU.out, NE.out, HLT.out, VS0_ok⟩)
 have F3 := Aside0.mk (show Fr g w ((w2.setCell ⟨g, 6, none⟩ (.map (some bi))).setCell ⟨g, 7, none⟩ (.map (some bu))) from ((Fr.of_below B2.out).setg 6 _).setg 7 _)
 generalize ((w2.setCell ⟨g, 6, none⟩ (.map (some bi))).setCell ⟨g, 7, none⟩ (.map (some bu))) = w3 at V3 F3 c0 ⊢
 clear c0 c6 c7 f6 f7 M1 B1 M2 B2 N1 G2 HB GI GU NE GN
 go_loopw [23] (fun vi wr => ∃ (i : Int) (s : VS), vi = .int .i64 i ∧ Aside0 (0 ≤ i ∧ i ≤ l.length) ∧ Aside0 (VolR wr g w.heap.size (.slice A l.length c) d m sm false s) ∧ Aside0 (Fr g w wr) ∧ Aside0 (parseL k (l.drop i.toNat) s = some po)) (fun vi _ => l.length - (intOf vi).toNat)
 case atStart => exact ⟨0, VS0, rfl, ⟨by omega⟩, V3, F3, HPO⟩
 case round =>
  obtain ⟨i, s, rfl, HI, HV, HFR, HP⟩ := hrel
  obtain ⟨hi0, hi1⟩ := HI.out
  by_cases hlt : i < (l.length : Int)
  ·have hlt2 : decide (i < (l.length : Int)) = true := decide_eq_true hlt
   have p0 := eq_true hi0
   have p1 := eq_true hlt
   obtain ⟨x, hx⟩ : ∃ x, x = rd_T71 l i := ⟨_, rfl⟩
   obtain ⟨ad, hAd, k0, k1⟩ := at_T71 (HF.out wr HFR.out.1) i hi0 hlt
   subst hAd
   rw [← hx] at k0 k1
   have hR0 := HP.out
   rw [drop_IT hi0 hlt, ← hx, parseL] at hR0
   obtain ⟨⟨q1, q2, q3, q4, q5⟩, hpa, hR⟩ := Option.bind_eq_some_iff.mp hR0
   clear hR0
   simp only at hR
   have HPA := Aside0.mk hpa
   have ew : wrap64 (i + 1) = i + 1 := by have := HMX.out; unfold wrap64; omega
   have EW := Aside0.mk ew
   have LT := Aside0.mk hlt
   clear hpa hlt hi0 hi1 ew hx
   by_cases h5 : q5 = 0
   ·rw [if_pos h5] at hR
    subst h5
    split at hR
    case isFalse => cases hR
    case isTrue hq =>
    have HQ := Aside0.mk hq
    have HRR := Aside0.mk hR
    clear hR hq
    go_wp2_with (first
     | ((with_reducible refine gate_dst (N := 4) rfl ?_); refine var_event (N := 4) (T := 71) (n := 2) (zc := #[.string ⟨#[]⟩, .string ⟨#[]⟩]) (cs := #[.string x.f0, .string x.f1]) rfl rfl rfl (.tmp 26) rfl rfl ?hr (by kernel_rfl) rfl rfl rfl ?hx ?hN ?_; (case hx => intro p_; rfl); (case hN => intro p_; rfl); (case hr => first | (go_simp; done) | (go_simp; rfl)); intro gx hgx w4 hx4 hb4; have X4 := Aside0.mk hx4; have B4 := Aside0.mk hb4; have y0 : w4.cell? ⟨gx, 0, none⟩ = some (.string x.f0) := (blk_cell X4.out 0).trans rfl; clear hx4 hb4 hgx k0 k1)
     | (go_at_call 44; refine (inode_Parse.calls k x.f0 q1 q2 q3 q4 0 _ HPA.out).mono ?_; rintro e w5 ⟨rfl, hb5⟩; have X5 := Aside0.mk (blk_below X4.out hb5); have B5 := Aside0.mk (below_step B4.out hb5); clear hb5 y0)
     | ((with_reducible refine gate_dst (N := 5) rfl ?_); refine var_event (N := 5) (T := 37) (n := 4) (zc := #[.int .u8 0, .int .u32 0, .string ⟨#[]⟩, .int .u32 0]) (cs := #[.int .u8 q1, .int .u32 q2, .string q3, .int .u32 q4]) rfl rfl rfl (.tmp 31) rfl rfl ?hr (by kernel_rfl) rfl rfl rfl ?hx ?hN ?_; (case hx => intro p_; rfl); (case hN => intro p_; rfl); (case hr => first | (go_simp; done) | (go_simp; rfl)); intro gk hgk w6 hx6 hb6; have K6 := Aside0.mk hx6; have X6 := Aside0.mk (blk_below X5.out hb6); have B6 := Aside0.mk (below_step B5.out hb6); clear hx6 hb6 hgk))
    have hv := HV.out.below B6.out
    obtain ⟨va, bi2, bu2, hG, hA, hI, hU, hbi, hbu, hne, hgb, hok⟩ := hv
    obtain ⟨A0, c0, rfl⟩ := Kd.R_slice hA
    have G6 := Aside0.mk hG
    have A6 := Aside0.mk hA
    have I6 := Aside0.mk hI
    have U6 := Aside0.mk hU
    have HBI := Aside0.mk (And.intro hbi hbu)
    have HNE := Aside0.mk hne
    have HGB := Aside0.mk hgb
    have HOK := Aside0.mk hok
    have D6 := Aside0.mk (show Below w6.heap.size w6 w6.drew from below_drew1 (Below.refl _ _))
    clear hG hA hI hU hbi hbu hne hgb hok
    refine start_ (n := 14) (S := (fun w' => w'.cell? ⟨g, 5, none⟩ = some (.slice A0 s.all.length c0) ∧ w'.cell? ⟨gk, 0, none⟩ = some (.int .u8 q1) ∧ w'.cell? ⟨gk, 1, none⟩ = some (.int .u32 q2) ∧ w'.cell? ⟨gk, 2, none⟩ = some (.string q3) ∧ w'.cell? ⟨gk, 3, none⟩ = some (.int .u32 q4) ∧ w'.cell? ⟨gx, 1, none⟩ = some (.string x.f1))) (ds := [13]) #[false, false, false, false, false, false, false, false, false, false, false, false, false, false] (by kernel_rfl) rfl rfl ⟨(blk_cell (blk_below G6.out D6.out) 5).trans rfl, (blk_cell (blk_below K6.out D6.out) 0).trans rfl, (blk_cell (blk_below K6.out D6.out) 1).trans rfl, (blk_cell (blk_below K6.out D6.out) 2).trans rfl, (blk_cell (blk_below K6.out D6.out) 3).trans rfl, (blk_cell (blk_below X6.out D6.out) 1).trans rfl⟩ (fun hHeld => ?_)
    refine pure_ (i := 0) (N := some 35) (v := ?_) (a' := ?_) #[true, false, false, false, false, false, false, false, false, false, false, false, false, false] rfl rfl (by kernel_rfl) (fun _ _ _ h => h) (Or.inl ⟨by rfl, ?_⟩) ?_ ?_
    rotate_left
    ·intro w'
     go_simp
     with_reducible rfl
    rotate_left
    ·simp only [Act.put, List.setIfInBounds_toArray, List.set_cons_zero, List.set_cons_succ, i64_w, i32_w]
     rfl
    refine pure_ (i := 1) (N := some 36) (v := ?_) (a' := ?_) #[true, true, false, false, false, false, false, false, false, false, false, false, false, false] rfl rfl (by kernel_rfl) (fun _ _ _ h => h) (Or.inl ⟨by rfl, ?_⟩) ?_ ?_
    rotate_left
    ·intro w'
     go_simp
     with_reducible rfl
    rotate_left
    ·simp only [Act.put, List.setIfInBounds_toArray, List.set_cons_zero, List.set_cons_succ, i64_w, i32_w]
     rfl
    refine pure_ (i := 2) (N := some 37) (v := ?_) (a' := ?_) #[true, true, true, false, false, false, false, false, false, false, false, false, false, false] rfl rfl (by kernel_rfl) (fun _ _ _ h => h) (Or.inl ⟨by rfl, ?_⟩) ?_ ?_
    rotate_left
    ·intro w'
     go_simp
     with_reducible rfl
    rotate_left
    ·simp only [Act.put, List.setIfInBounds_toArray, List.set_cons_zero, List.set_cons_succ, i64_w, i32_w]
     rfl
    refine pure_ (i := 3) (N := some 38) (v := ?_) (a' := ?_) #[true, true, true, true, false, false, false, false, false, false, false, false, false, false] rfl rfl (by kernel_rfl) (fun _ _ _ h => h) (Or.inl ⟨by rfl, ?_⟩) ?_ ?_
    rotate_left
    ·intro w'
     go_simp
     with_reducible rfl
    rotate_left
    ·simp only [Act.put, List.setIfInBounds_toArray, List.set_cons_zero, List.set_cons_succ, i64_w, i32_w]
     rfl
    refine take_ (i := 4) (N := some 39) (v := ?_) (a' := ?_) #[true, true, true, true, true, false, false, false, false, false, false, false, false, false] rfl rfl (by kernel_rfl) (fun _ _ _ h => h) (Or.inl ⟨by rfl, ?_⟩) hHeld ?_ ?_
    rotate_left
    ·rintro w' ⟨s0, s1, s2, s3, s4, s5⟩
     go_simp
     with_reducible rfl
    rotate_left
    ·simp only [Act.put, List.setIfInBounds_toArray, List.set_cons_zero, List.set_cons_succ, i64_w, i32_w]
     rfl
    refine take_ (i := 5) (N := some 40) (v := ?_) (a' := ?_) #[true, true, true, true, true, true, false, false, false, false, false, false, false, false] rfl rfl (by kernel_rfl) (fun _ _ _ h => h) (Or.inl ⟨by rfl, ?_⟩) hHeld ?_ ?_
    rotate_left
    ·rintro w' ⟨s0, s1, s2, s3, s4, s5⟩
     go_simp
     with_reducible rfl
    rotate_left
    ·simp only [Act.put, List.setIfInBounds_toArray, List.set_cons_zero, List.set_cons_succ, i64_w, i32_w]
     rfl
    refine pure_ (i := 6) (N := some 41) (v := ?_) (a' := ?_) #[true, true, true, true, true, true, true, false, false, false, false, false, false, false] rfl rfl (by kernel_rfl) (fun _ _ _ h => h) (Or.inl ⟨by rfl, ?_⟩) ?_ ?_
    rotate_left
    ·intro w'
     go_simp
     with_reducible rfl
    rotate_left
    ·simp only [Act.put, List.setIfInBounds_toArray, List.set_cons_zero, List.set_cons_succ, i64_w, i32_w]
     rfl
    refine take_ (i := 7) (N := some 42) (v := ?_) (a' := ?_) #[true, true, true, true, true, true, true, true, false, false, false, false, false, false] rfl rfl (by kernel_rfl) (fun _ _ _ h => h) (Or.inl ⟨by rfl, ?_⟩) hHeld ?_ ?_
    rotate_left
    ·rintro w' ⟨s0, s1, s2, s3, s4, s5⟩
     go_simp
     with_reducible rfl
    rotate_left
    ·simp only [Act.put, List.setIfInBounds_toArray, List.set_cons_zero, List.set_cons_succ, i64_w, i32_w]
     rfl
    refine pure_ (i := 8) (N := some 43) (v := ?_) (a' := ?_) #[true, true, true, true, true, true, true, true, true, false, false, false, false, false] rfl rfl (by kernel_rfl) (fun _ _ _ h => h) (Or.inl ⟨by rfl, ?_⟩) ?_ ?_
    rotate_left
    ·intro w'
     go_simp
     with_reducible rfl
    rotate_left
    ·simp only [Act.put, List.setIfInBounds_toArray, List.set_cons_zero, List.set_cons_succ, i64_w, i32_w]
     rfl
    refine one_ (i := 9) (N := some 44) #[true, true, true, true, true, true, true, true, true, true, false, false, false, false] rfl rfl (by kernel_rfl) (by decide) (fun K hK => ?_)
    refine Kd.R_lit_step kKept (w0 := w6.drew) w6.drew.heap.size 168 (by rfl) (N := 44) rfl (xs := [(⟨q1, q2, q3, q4, x.f1⟩ : KItm)]) (inner := [.int .u8 q1, .int .u32 q2, .string q3, .int .u32 q4, .string x.f1]) (ok := fun _ => True) (okp := fun _ => True) (by first | (go_simp; done) | (go_simp; rfl)) (Reps.c5 (kKept_mkM _ _ _ (⟨q1, q2, q3, q4, x.f1⟩ : KItm)) (Reps.none _ _)) (fun _ hk => hk) trivial (Below.refl _ _) (Nat.le_refl _) (by simp) ?_
    intro v8 w8 ho hb hg_ hnew_
    have R8 := Aside0.mk ho
    have B8 := Aside0.mk (show Below w6.heap.size w6 w8 from below_then D6.out D6.out.size hb)
    obtain ⟨A8, c8, rfl⟩ := Kd.R_slice ho
    clear ho hb hg_ hnew_
    refine hK.out _ _ ⟨(blk_cell (blk_below G6.out B8.out) 5).trans rfl, (blk_cell (blk_below K6.out B8.out) 0).trans rfl, (blk_cell (blk_below K6.out B8.out) 1).trans rfl, (blk_cell (blk_below K6.out B8.out) 2).trans rfl, (blk_cell (blk_below K6.out B8.out) 3).trans rfl, (blk_cell (blk_below X6.out B8.out) 1).trans rfl⟩ (fun hHeld => ?_)
    clear hK K
    refine norm_ (a' := ?_) ?_ ?_
    rotate_left
    ·show Act.put _ (some 44) _ = _
     simp only [Act.put, List.setIfInBounds_toArray, List.set_cons_zero, List.set_cons_succ, i64_w, i32_w]
     rfl
    refine one_ (i := 10) (N := some 45) #[true, true, true, true, true, true, true, true, true, true, true, false, false, false] rfl rfl (by kernel_rfl) (by decide) (fun K hK => ?_)
    refine append_wide_step (d := kKept) (fun h => h) w.heap.size (by rfl) (.tmp 39) (.tmp 44) 137 168 (.agg #[.int .u8 0, .int .u32 0, .string ⟨#[]⟩, .int .u32 0, .string ⟨#[]⟩]) 48 rfl Tryz.underlying137 info_kept rfl (by decide) (.slice A0 s.all.length c0) s.all [(⟨q1, q2, q3, q4, x.f1⟩ : KItm)] _ _ _ rfl rfl (Kd.R_below A6.out B8.out) (Kd.R_reads' R8.out).2.2 (Nat.le_trans HFR.out.size (Nat.le_trans B6.out.size B8.out.size)) (by have := HQ.out.2.2; simp; omega) (by have := HQ.out.2.2; unfold maxLen; simp; omega) ?_
    intro v9 w9 ho hg
    have R9 := Aside0.mk ho
    have GR := Aside0.mk hg
    have G9 := Aside0.mk (blk_grown (blk_below G6.out B8.out) hg (row_low (Kd.R_below A6.out B8.out) HGB.out))
    have K9 := Aside0.mk (blk_grown (blk_below K6.out B8.out) hg (Kd.R_ne (Kd.R_below A6.out B8.out) (blk_below K6.out B8.out) (by decide)))
    have X9 := Aside0.mk (blk_grown (blk_below X6.out B8.out) hg (Kd.R_ne (Kd.R_below A6.out B8.out) (blk_below X6.out B8.out) (by decide)))
    clear ho hg
    refine hK.out _ _ ⟨(blk_cell G9.out 5).trans rfl, (blk_cell K9.out 0).trans rfl, (blk_cell K9.out 1).trans rfl, (blk_cell K9.out 2).trans rfl, (blk_cell K9.out 3).trans rfl, (blk_cell X9.out 1).trans rfl⟩ (fun hHeld => ?_)
    clear hK K
    refine norm_ (a' := ?_) ?_ ?_
    rotate_left
    ·show Act.put _ (some 45) _ = _
     simp only [Act.put, List.setIfInBounds_toArray, List.set_cons_zero, List.set_cons_succ, i64_w, i32_w]
     rfl
    obtain ⟨A9, c9, hv9⟩ := Kd.R_slice R9.out
    obtain ⟨n9, hn9⟩ : ∃ n9, n9 = (s.all ++ [(⟨q1, q2, q3, q4, x.f1⟩ : KItm)]).length := ⟨_, rfl⟩
    rw [← hn9] at hv9
    subst hv9
    clear hn9
    have f5 : w9.frozen? ⟨g, 5, none⟩ = false := blk_frozen G9.out 5
    refine pure_ (i := 11) (N := some 46) (v := ?_) (a' := ?_) #[true, true, true, true, true, true, true, true, true, true, true, true, false, false] rfl rfl (by kernel_rfl) (fun _ _ _ h => h) (Or.inl ⟨by rfl, ?_⟩) ?_ ?_
    rotate_left
    ·intro w'
     go_simp
     with_reducible rfl
    rotate_left
    ·simp only [Act.put, List.setIfInBounds_toArray, List.set_cons_zero, List.set_cons_succ, i64_w, i32_w]
     rfl
    refine pure_ (i := 12) (N := some 47) (v := ?_) (a' := ?_) #[true, true, true, true, true, true, true, true, true, true, true, true, true, false] rfl rfl (by kernel_rfl) (fun _ _ _ h => h) (Or.inl ⟨by rfl, ?_⟩) ?_ ?_
    rotate_left
    ·intro w'
     go_simp
     with_reducible rfl
    rotate_left
    ·simp only [Act.put, List.setIfInBounds_toArray, List.set_cons_zero, List.set_cons_succ, i64_w, i32_w]
     rfl
    refine last_ (i := 13) (N := none) #[true, true, true, true, true, true, true, true, true, true, true, true, true, true] rfl rfl (by kernel_rfl) (by decide) (fun K hK => ?_)
    refine skip_ (w1 := ?_) (by rfl) rfl ?_ ?_
    rotate_left
    ·go_simp
     rfl
    refine hK.out _ _ ?_
    clear hK K
    refine done_ (by kernel_rfl) ?_
    have V10 := Aside0.mk (VolR.push (x := (⟨q1, q2, q3, q4, x.f1⟩ : KItm)) (blk_below G6.out B8.out) (Kd.R_below A6.out B8.out) (I6.out.below B8.out) (U6.out.below B8.out) HBI.out.1 HBI.out.2 HNE.out HGB.out HOK.out R9.out GR.out ⟨HQ.out.1, HQ.out.2.1⟩ HQ.out.2.2)
    have F10 := Aside0.mk ((((HFR.out.below B6.out).below B8.out).grown GR.out (row_base A6.out)).setg 5 (.slice A9 n9 c9))
    have K10 := Aside0.mk (blk_far (p := ⟨g, 5, none⟩) K9.out (blk_ne K9.out G9.out (by decide)) (.slice A9 n9 c9))
    have X10 := Aside0.mk (blk_far (p := ⟨g, 5, none⟩) X9.out (blk_ne X9.out G9.out (by decide)) (.slice A9 n9 c9))
    clear hHeld f5 G6 A6 I6 U6 B8 R8 GR R9 K9 X9 G9 K6 X6 X4 X5 B4 B5 D6 HPA V3 F3
    generalize w9.setCell ⟨g, 5, none⟩ (.slice A9 n9 c9) = w10 at V10 F10 K10 X10 ⊢
    have y0 : w10.cell? ⟨gk, 0, none⟩ = some (.int .u8 q1) := (blk_cell K10.out 0).trans rfl
    have HLN := Aside0.mk (show s.n + 1 ≤ (s.add (⟨q1, q2, q3, q4, x.f1⟩ : KItm)).all.length ∧ s.n < maxLen by have := HOK.out.2.2.2; have := HQ.out.2.2; unfold maxLen; simp [VS.add]; omega)
    have hR := HRR.out
    clear HRR
    by_cases k1 : q1 = 1
    ·rw [if_pos k1] at hR
     subst k1
     obtain ⟨⟨n1, n2, n3, n4, n5, n6⟩, hn, hR⟩ := Option.bind_eq_some_iff.mp hR
     simp only at hR
     have HN := Aside0.mk hn
     have y1 : w10.cell? ⟨gx, 1, none⟩ = some (.string x.f1) := (blk_cell X10.out 1).trans rfl
     clear hn
     by_cases h6 : n6 = 0
     ·rw [if_pos h6] at hR
      subst h6
      have HRR := Aside0.mk hR
      clear hR
      go_wp2_with (first
       | (go_at_call 103; refine (inode_Decode.calls k x.f1 n1 n2 n3 n4 n5 0 _ HN.out).mono ?_; rintro e w11 ⟨rfl, hb11⟩; have B11 := Aside0.mk hb11; clear hb11 y0 y1)
       | ((with_reducible refine gate_dst (N := 7) rfl ?_); refine var_event (N := 7) (T := 33) (n := 5) (zc := #[.int .u8 0, .int .u16 0, .int .u32 0, .int .u32 0, .string ⟨#[]⟩]) (cs := #[.int .u8 n1, .int .u16 n2, .int .u32 n3, .int .u32 n4, .string n5]) rfl rfl rfl (.tmp 56) rfl rfl ?hr (by kernel_rfl) rfl rfl rfl ?hx ?hN ?_; (case hx => intro p_; rfl); (case hN => intro p_; rfl); (case hr => first | (go_simp; done) | (go_simp; rfl)); intro gn hgn w12 hx12 hb12; have N12 := Aside0.mk hx12; have B12 := Aside0.mk (below_step B11.out hb12); clear hx12 hb12 hgn))
      have hv := V10.out.below B12.out
      obtain ⟨va, bi3, bu3, hG, hA, hI, hU, hbi, hbu, hne, hgb, hok⟩ := hv
      have G12 := Aside0.mk hG
      have A12 := Aside0.mk hA
      have I12 := Aside0.mk hI
      have U12 := Aside0.mk hU
      have HB12 := Aside0.mk (And.intro hbi hbu)
      have HNE12 := Aside0.mk hne
      have HOK12 := Aside0.mk hok
      have K12 := Aside0.mk (blk_below K10.out B12.out)
      clear hG hA hI hU hbi hbu hne hgb hok
      refine start_ (n := 8) (S := (fun w' => w'.cell? ⟨g, 6, none⟩ = some (.map (some bi3)) ∧ w'.cell? ⟨gk, 1, none⟩ = some (.int .u32 q2) ∧ w'.cell? ⟨gn, 0, none⟩ = some (.int .u8 n1) ∧ w'.cell? ⟨gn, 1, none⟩ = some (.int .u16 n2) ∧ w'.cell? ⟨gn, 2, none⟩ = some (.int .u32 n3) ∧ w'.cell? ⟨gn, 3, none⟩ = some (.int .u32 n4) ∧ w'.cell? ⟨gn, 4, none⟩ = some (.string n5))) (ds := [7]) #[false, false, false, false, false, false, false, false] (by kernel_rfl) rfl rfl ⟨(blk_cell (blk_below G12.out (show Below w12.heap.size w12 w12.drew from below_drew1 (Below.refl _ _))) 6).trans rfl, (blk_cell (blk_below K12.out (show Below w12.heap.size w12 w12.drew from below_drew1 (Below.refl _ _))) 1).trans rfl, (blk_cell (blk_below N12.out (show Below w12.heap.size w12 w12.drew from below_drew1 (Below.refl _ _))) 0).trans rfl, (blk_cell (blk_below N12.out (show Below w12.heap.size w12 w12.drew from below_drew1 (Below.refl _ _))) 1).trans rfl, (blk_cell (blk_below N12.out (show Below w12.heap.size w12 w12.drew from below_drew1 (Below.refl _ _))) 2).trans rfl, (blk_cell (blk_below N12.out (show Below w12.heap.size w12 w12.drew from below_drew1 (Below.refl _ _))) 3).trans rfl, (blk_cell (blk_below N12.out (show Below w12.heap.size w12 w12.drew from below_drew1 (Below.refl _ _))) 4).trans rfl⟩ (fun hHeld => ?_)
      refine pure_ (i := 0) (N := some 60) (v := ?_) (a' := ?_) #[true, false, false, false, false, false, false, false] rfl rfl (by kernel_rfl) (fun _ _ _ h => h) (Or.inl ⟨by rfl, ?_⟩) ?_ ?_
      rotate_left
      ·intro w'
       go_simp
       with_reducible rfl
      rotate_left
      ·simp only [Act.put, List.setIfInBounds_toArray, List.set_cons_zero, List.set_cons_succ, i64_w, i32_w]
       rfl
      refine pure_ (i := 1) (N := some 61) (v := ?_) (a' := ?_) #[true, true, false, false, false, false, false, false] rfl rfl (by kernel_rfl) (fun _ _ _ h => h) (Or.inl ⟨by rfl, ?_⟩) ?_ ?_
      rotate_left
      ·intro w'
       go_simp
       with_reducible rfl
      rotate_left
      ·simp only [Act.put, List.setIfInBounds_toArray, List.set_cons_zero, List.set_cons_succ, i64_w, i32_w]
       rfl
      refine pure_ (i := 2) (N := some 62) (v := ?_) (a' := ?_) #[true, true, true, false, false, false, false, false] rfl rfl (by kernel_rfl) (fun _ _ _ h => h) (Or.inl ⟨by rfl, ?_⟩) ?_ ?_
      rotate_left
      ·intro w'
       go_simp
       with_reducible rfl
      rotate_left
      ·simp only [Act.put, List.setIfInBounds_toArray, List.set_cons_zero, List.set_cons_succ, i64_w, i32_w]
       rfl
      refine take_ (i := 3) (N := some 63) (v := ?_) (a' := ?_) #[true, true, true, true, false, false, false, false] rfl rfl (by kernel_rfl) (fun _ _ _ h => h) (Or.inl ⟨by rfl, ?_⟩) hHeld ?_ ?_
      rotate_left
      ·rintro w' ⟨s0, s1, s2, s3, s4, s5, s6⟩
       go_simp
       with_reducible rfl
      rotate_left
      ·simp only [Act.put, List.setIfInBounds_toArray, List.set_cons_zero, List.set_cons_succ, i64_w, i32_w]
       rfl
      refine pure_ (i := 4) (N := some 64) (v := ?_) (a' := ?_) #[true, true, true, true, true, false, false, false] rfl rfl (by kernel_rfl) (fun _ _ _ h => h) (Or.inl ⟨by rfl, ?_⟩) ?_ ?_
      rotate_left
      ·intro w'
       go_simp
       with_reducible rfl
      rotate_left
      ·simp only [Act.put, List.setIfInBounds_toArray, List.set_cons_zero, List.set_cons_succ, i64_w, i32_w]
       rfl
      refine take_ (i := 5) (N := some 65) (v := ?_) (a' := ?_) #[true, true, true, true, true, true, false, false] rfl rfl (by kernel_rfl) (fun _ _ _ h => h) (Or.inl ⟨by rfl, ?_⟩) hHeld ?_ ?_
      rotate_left
      ·rintro w' ⟨s0, s1, s2, s3, s4, s5, s6⟩
       go_simp
       with_reducible rfl
      rotate_left
      ·simp only [Act.put, List.setIfInBounds_toArray, List.set_cons_zero, List.set_cons_succ, i64_w, i32_w]
       rfl
      refine take_ (i := 6) (N := some 66) (v := ?_) (a' := ?_) #[true, true, true, true, true, true, true, false] rfl rfl (by kernel_rfl) (fun _ _ _ h => h) (Or.inl ⟨by rfl, ?_⟩) hHeld ?_ ?_
      rotate_left
      ·rintro w' ⟨s0, s1, s2, s3, s4, s5, s6⟩
       go_simp
       with_reducible rfl
      rotate_left
      ·simp only [Act.put, List.setIfInBounds_toArray, List.set_cons_zero, List.set_cons_succ, i64_w, i32_w]
       rfl
      refine last_ (i := 7) (N := none) #[true, true, true, true, true, true, true, true] rfl rfl (by kernel_rfl) (by decide) (fun K hK => ?_)
      refine map_store_step (k := 22) (by rfl) (.tmp 63) (.tmp 65) (.tmp 66) 138 33 rfl rfl Tryz.underlying22 Tryz.underlying138 rfl (I12.out.move rfl : MapF Tryz.prog 22 w12.drew bi3 _ _) HLN.out.2 q2 rfl (u32wf ⟨HQ.out.1, HQ.out.2.1⟩) (inoV ⟨n1, n2, n3, n4, n5⟩) rfl ?_
      intro w13 hm13 hg13
      have V13 := Aside0.mk (show VolR w13 g w.heap.size (.slice (some ad) l.length c) d m sm false ((s.add (⟨1, q2, q3, q4, x.f1⟩ : KItm)).put1 q2 ⟨n1, n2, n3, n4, n5⟩) from VolR.stI (w := w12.drew) (va := va) (bi := bi3) (bu := bu3) (v' := va) (s := s.add (⟨1, q2, q3, q4, x.f1⟩ : KItm)) G12.out (Kd.R_below A12.out (show Below w12.heap.size w12 w12.drew from below_drew1 (Below.refl _ _))) (I12.out.move rfl) (U12.out.move rfl) HB12.out.1 HB12.out.2 HNE12.out HGB.out HOK12.out hm13 hg13 HLN.out.1)
      have F13 := Aside0.mk (show Fr g w w13 from ((F10.out.below B12.out).below (show Below w12.heap.size w12 w12.drew from below_drew1 (Below.refl _ _))).grown hg13 (fun b hb => by obtain rfl := Option.some.inj hb; exact HB12.out.1))
      refine hK.out _ _ ?_
      clear hK K hm13 hg13
      refine done_ (by kernel_rfl) ?_
      clear hHeld
      go_wp2
      have hi := HI.out
      have hl := LT.out
      go_roundw
      case rel => exact ⟨i + 1, _, by rw [EW.out], ⟨by omega⟩, V13, F13, HRR⟩
      case measure =>
       simp [EW.out, intOf]
       omega
     ·rw [if_neg h6] at hR
      have e6 : (n6 != 0) = true := bne_iff_ne.2 h6
      have HRR := Aside0.mk hR
      clear hR h6
      go_wp2_with (first
       | (go_at_call 103; refine (inode_Decode.calls k x.f1 n1 n2 n3 n4 n5 n6 _ HN.out).mono ?_; rintro e w11 ⟨rfl, hb11⟩; have B11 := Aside0.mk hb11; clear hb11 y0 y1)
       | ((with_reducible refine gate_dst (N := 7) rfl ?_); refine var_event (N := 7) (T := 33) (n := 5) (zc := #[.int .u8 0, .int .u16 0, .int .u32 0, .int .u32 0, .string ⟨#[]⟩]) (cs := #[.int .u8 n1, .int .u16 n2, .int .u32 n3, .int .u32 n4, .string n5]) rfl rfl rfl (.tmp 56) rfl rfl ?hr (by kernel_rfl) rfl rfl rfl ?hx ?hN ?_; (case hx => intro p_; rfl); (case hN => intro p_; rfl); (case hr => first | (go_simp; done) | (go_simp; rfl)); intro gn hgn w12 hx12 hb12; have N12 := Aside0.mk hx12; have B12 := Aside0.mk (below_step B11.out hb12); clear hx12 hb12 hgn))
      go_ret
      have hv := V10.out.below B12.out
      obtain ⟨va, bi2, bu2, hG, _⟩ := hv
      have ho := HO.out
      rw [← Option.some.inj HRR.out] at ho
      obtain rfl := Option.some.inj ho
      exact ⟨rfl, F10.out.below B12.out, (fun s hs => by cases hs), va, _, _, hG⟩
    ·rw [if_neg k1] at hR
     have e1 : (q1 == 1) = false := beq_eq_false_iff_ne.2 k1
     clear k1
     by_cases k2 : q1 = 2
     ·rw [if_pos k2] at hR
      have e2 : (q1 == 2) = true := beq_iff_eq.2 k2
      obtain ⟨t, ht, hR⟩ := Option.bind_eq_some_iff.mp hR
      have HT := Aside0.mk ht
      have HTW := Aside0.mk (number_wf ht)
      have HRR := Aside0.mk hR
      have y1 : w10.cell? ⟨gx, 1, none⟩ = some (.string x.f1) := (blk_cell X10.out 1).trans rfl
      clear hR k2 ht
      go_wp2_with (first | (go_at_call 85; refine (dirs_number.calls k x.f1 t _ HT.out).mono ?_; rintro e w12 ⟨rfl, hd12⟩; have B12 := Aside0.mk hd12.below; clear hd12 y0 y1))
      have hv := V10.out.below B12.out
      obtain ⟨va, bi3, bu3, hG, hA, hI, hU, hbi, hbu, hne, hgb, hok⟩ := hv
      have G12 := Aside0.mk hG
      have A12 := Aside0.mk hA
      have I12 := Aside0.mk hI
      have U12 := Aside0.mk hU
      have HB12 := Aside0.mk (And.intro hbi hbu)
      have HNE12 := Aside0.mk hne
      have HOK12 := Aside0.mk hok
      have K12 := Aside0.mk (blk_below K10.out B12.out)
      clear hG hA hI hU hbi hbu hne hgb hok
      obtain ⟨y, hy⟩ : ∃ y, y = (s.up t).getD (0, 0) := ⟨_, rfl⟩
      rw [← hy] at HRR
      have HY := Aside0.mk hy
      clear hy
      refine start_ (n := 17) (S := (fun w' => w'.cell? ⟨g, 7, none⟩ = some (.map (some bu3)) ∧ w'.cell? ⟨gk, 1, none⟩ = some (.int .u32 q2) ∧ (Instr.lookup 139 (.map (some bu3)) (.int .u32 t) false).run Tryz.prog w' = .ok (.agg #[.int .i64 y.1, .int .u32 y.2]) w')) (ds := [16]) #[false, false, false, false, false, false, false, false, false, false, false, false, false, false, false, false, false] (by kernel_rfl) rfl rfl ⟨(blk_cell (blk_below G12.out (show Below w12.heap.size w12 w12.drew from below_drew1 (Below.refl _ _))) 7).trans rfl, (blk_cell (blk_below K12.out (show Below w12.heap.size w12 w12.drew from below_drew1 (Below.refl _ _))) 1).trans rfl, (lookW (U12.out.move rfl : MapF Tryz.prog 22 w12.drew bu3 _ _) HTW.out HY.out)⟩ (fun hHeld => ?_)
      refine pure_ (i := 0) (N := some 72) (v := ?_) (a' := ?_) #[true, false, false, false, false, false, false, false, false, false, false, false, false, false, false, false, false] rfl rfl (by kernel_rfl) (fun _ _ _ h => h) (Or.inl ⟨by rfl, ?_⟩) ?_ ?_
      rotate_left
      ·intro w'
       go_simp
       with_reducible rfl
      rotate_left
      ·simp only [Act.put, List.setIfInBounds_toArray, List.set_cons_zero, List.set_cons_succ, i64_w, i32_w]
       rfl
      refine pure_ (i := 1) (N := some 73) (v := ?_) (a' := ?_) #[true, true, false, false, false, false, false, false, false, false, false, false, false, false, false, false, false] rfl rfl (by kernel_rfl) (fun _ _ _ h => h) (Or.inl ⟨by rfl, ?_⟩) ?_ ?_
      rotate_left
      ·intro w'
       go_simp
       with_reducible rfl
      rotate_left
      ·simp only [Act.put, List.setIfInBounds_toArray, List.set_cons_zero, List.set_cons_succ, i64_w, i32_w]
       rfl
      refine pure_ (i := 2) (N := some 74) (v := ?_) (a' := ?_) #[true, true, true, false, false, false, false, false, false, false, false, false, false, false, false, false, false] rfl rfl (by kernel_rfl) (fun _ _ _ h => h) (Or.inl ⟨by rfl, ?_⟩) ?_ ?_
      rotate_left
      ·intro w'
       go_simp
       with_reducible rfl
      rotate_left
      ·simp only [Act.put, List.setIfInBounds_toArray, List.set_cons_zero, List.set_cons_succ, i64_w, i32_w]
       rfl
      refine take_ (i := 3) (N := some 75) (v := ?_) (a' := ?_) #[true, true, true, true, false, false, false, false, false, false, false, false, false, false, false, false, false] rfl rfl (by kernel_rfl) (fun _ _ _ h => h) (Or.inl ⟨by rfl, ?_⟩) hHeld ?_ ?_
      rotate_left
      ·rintro w' ⟨s0, s1, s2⟩
       go_simp
       with_reducible rfl
      rotate_left
      ·simp only [Act.put, List.setIfInBounds_toArray, List.set_cons_zero, List.set_cons_succ, i64_w, i32_w]
       rfl
      refine pure_ (i := 4) (N := some 76) (v := ?_) (a' := ?_) #[true, true, true, true, true, false, false, false, false, false, false, false, false, false, false, false, false] rfl rfl (by kernel_rfl) (fun _ _ _ h => h) (Or.inl ⟨by rfl, ?_⟩) ?_ ?_
      rotate_left
      ·intro w'
       go_simp
       with_reducible rfl
      rotate_left
      ·simp only [Act.put, List.setIfInBounds_toArray, List.set_cons_zero, List.set_cons_succ, i64_w, i32_w]
       rfl
      refine pure_ (i := 5) (N := some 77) (v := ?_) (a' := ?_) #[true, true, true, true, true, true, false, false, false, false, false, false, false, false, false, false, false] rfl rfl (by kernel_rfl) (fun _ _ _ h => h) (Or.inl ⟨by rfl, ?_⟩) ?_ ?_
      rotate_left
      ·intro w'
       go_simp
       with_reducible rfl
      rotate_left
      ·simp only [Act.put, List.setIfInBounds_toArray, List.set_cons_zero, List.set_cons_succ, i64_w, i32_w]
       rfl
      refine pure_ (i := 6) (N := some 78) (v := ?_) (a' := ?_) #[true, true, true, true, true, true, true, false, false, false, false, false, false, false, false, false, false] rfl rfl (by kernel_rfl) (fun _ _ _ h => h) (Or.inl ⟨by rfl, ?_⟩) ?_ ?_
      rotate_left
      ·intro w'
       go_simp
       with_reducible rfl
      rotate_left
      ·simp only [Act.put, List.setIfInBounds_toArray, List.set_cons_zero, List.set_cons_succ, i64_w, i32_w]
       rfl
      refine pure_ (i := 7) (N := some 79) (v := ?_) (a' := ?_) #[true, true, true, true, true, true, true, true, false, false, false, false, false, false, false, false, false] rfl rfl (by kernel_rfl) (fun _ _ _ h => h) (Or.inl ⟨by rfl, ?_⟩) ?_ ?_
      rotate_left
      ·intro w'
       go_simp
       with_reducible rfl
      rotate_left
      ·simp only [Act.put, List.setIfInBounds_toArray, List.set_cons_zero, List.set_cons_succ, i64_w, i32_w]
       rfl
      refine take_ (i := 8) (N := some 80) (v := ?_) (a' := ?_) #[true, true, true, true, true, true, true, true, true, false, false, false, false, false, false, false, false] rfl rfl (by kernel_rfl) (fun _ _ _ h => h) (Or.inl ⟨by rfl, ?_⟩) hHeld ?_ ?_
      rotate_left
      ·rintro w' ⟨s0, s1, s2⟩
       go_simp
       with_reducible rfl
      rotate_left
      ·simp only [Act.put, List.setIfInBounds_toArray, List.set_cons_zero, List.set_cons_succ, i64_w, i32_w]
       rfl
      refine pure_ (i := 9) (N := some 81) (v := ?_) (a' := ?_) #[true, true, true, true, true, true, true, true, true, true, false, false, false, false, false, false, false] rfl rfl (by kernel_rfl) (fun _ _ _ h => h) (Or.inl ⟨by rfl, ?_⟩) ?_ ?_
      rotate_left
      ·intro w'
       go_simp
       with_reducible rfl
      rotate_left
      ·simp only [Act.put, List.setIfInBounds_toArray, List.set_cons_zero, List.set_cons_succ, i64_w, i32_w]
       rfl
      refine take_ (i := 10) (N := some 82) (v := ?_) (a' := ?_) #[true, true, true, true, true, true, true, true, true, true, true, false, false, false, false, false, false] rfl rfl (by kernel_rfl) (fun _ _ _ h => h) (Or.inl ⟨by rfl, ?_⟩) hHeld ?_ ?_
      rotate_left
      ·rintro w' ⟨s0, s1, s2⟩
       go_simp
       with_reducible rfl
      rotate_left
      ·simp only [Act.put, List.setIfInBounds_toArray, List.set_cons_zero, List.set_cons_succ, i64_w, i32_w]
       rfl
      refine pure_ (i := 11) (N := some 83) (v := ?_) (a' := ?_) #[true, true, true, true, true, true, true, true, true, true, true, true, false, false, false, false, false] rfl rfl (by kernel_rfl) (fun _ _ _ h => h) (Or.inl ⟨by rfl, ?_⟩) ?_ ?_
      rotate_left
      ·intro w'
       go_simp
       rfl
      rotate_left
      ·simp only [Act.put, List.setIfInBounds_toArray, List.set_cons_zero, List.set_cons_succ, i64_w, i32_w]
       rfl
      refine pure_ (i := 12) (N := some 84) (v := ?_) (a' := ?_) #[true, true, true, true, true, true, true, true, true, true, true, true, true, false, false, false, false] rfl rfl (by kernel_rfl) (fun _ _ _ h => h) (Or.inl ⟨by rfl, ?_⟩) ?_ ?_
      rotate_left
      ·intro w'
       go_simp
       with_reducible rfl
      rotate_left
      ·simp only [Act.put, List.setIfInBounds_toArray, List.set_cons_zero, List.set_cons_succ, i64_w, i32_w]
       rfl
      refine pure_ (i := 13) (N := some 85) (v := ?_) (a' := ?_) #[true, true, true, true, true, true, true, true, true, true, true, true, true, true, false, false, false] rfl rfl (by kernel_rfl) (fun _ _ _ h => h) (Or.inl ⟨by rfl, ?_⟩) ?_ ?_
      rotate_left
      ·intro w'
       go_simp
       with_reducible rfl
      rotate_left
      ·simp only [Act.put, List.setIfInBounds_toArray, List.set_cons_zero, List.set_cons_succ, i64_w, i32_w]
       rfl
      refine take_ (i := 14) (N := some 86) (v := ?_) (a' := ?_) #[true, true, true, true, true, true, true, true, true, true, true, true, true, true, true, false, false] rfl rfl (by kernel_rfl) (fun _ _ _ h => h) (Or.inl ⟨by rfl, ?_⟩) hHeld ?_ ?_
      rotate_left
      ·rintro w' ⟨s0, s1, s2⟩
       go_simp
       with_reducible rfl
      rotate_left
      ·simp only [Act.put, List.setIfInBounds_toArray, List.set_cons_zero, List.set_cons_succ, i64_w, i32_w]
       rfl
      refine pure_ (i := 15) (N := some 87) (v := ?_) (a' := ?_) #[true, true, true, true, true, true, true, true, true, true, true, true, true, true, true, true, false] rfl rfl (by kernel_rfl) (fun _ _ _ h => h) (Or.inl ⟨by rfl, ?_⟩) ?_ ?_
      rotate_left
      ·intro w'
       go_simp
       with_reducible rfl
      rotate_left
      ·simp only [Act.put, List.setIfInBounds_toArray, List.set_cons_zero, List.set_cons_succ, i64_w, i32_w]
       rfl
      refine last_ (i := 16) (N := none) #[true, true, true, true, true, true, true, true, true, true, true, true, true, true, true, true, true] rfl rfl (by kernel_rfl) (by decide) (fun K hK => ?_)
      refine map_store_step (k := 22) (by rfl) (.tmp 75) (.tmp 76) (.tmp 87) 139 171 rfl rfl Tryz.underlying22 Tryz.underlying139 rfl (U12.out.move rfl : MapF Tryz.prog 22 w12.drew bu3 _ _) HLN.out.2 t rfl (u32wf HTW.out) (upV (wrap64 (y.1 + 1), q2)) rfl ?_
      intro w13 hm13 hg13
      have V13 := Aside0.mk (show VolR w13 g w.heap.size (.slice (some ad) l.length c) d m sm false ((s.add (⟨q1, q2, q3, q4, x.f1⟩ : KItm)).put2 t (wrap64 (y.1 + 1), q2)) from VolR.stU (w := w12.drew) (va := va) (bi := bi3) (bu := bu3) (v' := va) (s := s.add (⟨q1, q2, q3, q4, x.f1⟩ : KItm)) G12.out (Kd.R_below A12.out (show Below w12.heap.size w12 w12.drew from below_drew1 (Below.refl _ _))) (I12.out.move rfl) (U12.out.move rfl) HB12.out.1 HB12.out.2 HNE12.out HGB.out HOK12.out hm13 hg13 HLN.out.1 ⟨HQ.out.1, HQ.out.2.1⟩)
      have F13 := Aside0.mk (show Fr g w w13 from ((F10.out.below B12.out).below (show Below w12.heap.size w12 w12.drew from below_drew1 (Below.refl _ _))).grown hg13 (fun b hb => by obtain rfl := Option.some.inj hb; exact HB12.out.2))
      refine hK.out _ _ ?_
      clear hK K hm13 hg13
      refine done_ (by kernel_rfl) ?_
      clear hHeld
      go_wp2
      have hi := HI.out
      have hl := LT.out
      go_roundw
      case rel => exact ⟨i + 1, _, by rw [EW.out], ⟨by omega⟩, V13, F13, HRR⟩
      case measure =>
       simp [EW.out, intOf]
       omega
     ·rw [if_neg k2] at hR
      have e2 : (q1 == 2) = false := beq_eq_false_iff_ne.2 k2
      have HRR := Aside0.mk hR
      clear hR k2
      go_wp2
      have hi := HI.out
      have hl := LT.out
      go_roundw
      case rel => exact ⟨i + 1, s.add (⟨q1, q2, q3, q4, x.f1⟩ : KItm), by rw [EW.out], ⟨by omega⟩, V10, F10, HRR⟩
      case measure =>
       simp [EW.out, intOf]
       omega
   ·rw [if_neg h5] at hR
    have e5 : (q5 != 0) = true := bne_iff_ne.2 h5
    have HRR := Aside0.mk hR
    clear hR h5
    go_wp2_with (first
     | ((with_reducible refine gate_dst (N := 4) rfl ?_); refine var_event (N := 4) (T := 71) (n := 2) (zc := #[.string ⟨#[]⟩, .string ⟨#[]⟩]) (cs := #[.string x.f0, .string x.f1]) rfl rfl rfl (.tmp 26) rfl rfl ?hr (by kernel_rfl) rfl rfl rfl ?hx ?hN ?_; (case hx => intro p_; rfl); (case hN => intro p_; rfl); (case hr => first | (go_simp; done) | (go_simp; rfl)); intro gx hgx w4 hx4 hb4; have X4 := Aside0.mk hx4; have B4 := Aside0.mk hb4; have y0 : w4.cell? ⟨gx, 0, none⟩ = some (.string x.f0) := (blk_cell X4.out 0).trans rfl; clear hx4 hb4 hgx k0 k1)
     | (go_at_call 44; refine (inode_Parse.calls k x.f0 q1 q2 q3 q4 q5 _ HPA.out).mono ?_; rintro e w5 ⟨rfl, hb5⟩; have X5 := Aside0.mk (blk_below X4.out hb5); have B5 := Aside0.mk (below_step B4.out hb5); clear hb5 y0)
     | ((with_reducible refine gate_dst (N := 5) rfl ?_); refine var_event (N := 5) (T := 37) (n := 4) (zc := #[.int .u8 0, .int .u32 0, .string ⟨#[]⟩, .int .u32 0]) (cs := #[.int .u8 q1, .int .u32 q2, .string q3, .int .u32 q4]) rfl rfl rfl (.tmp 31) rfl rfl ?hr (by kernel_rfl) rfl rfl rfl ?hx ?hN ?_; (case hx => intro p_; rfl); (case hN => intro p_; rfl); (case hr => first | (go_simp; done) | (go_simp; rfl)); intro gk hgk w6 hx6 hb6; have K6 := Aside0.mk hx6; have X6 := Aside0.mk (blk_below X5.out hb6); have B6 := Aside0.mk (below_step B5.out hb6); clear hx6 hb6 hgk))
    go_ret
    have hv := HV.out.below B6.out
    obtain ⟨va, bi2, bu2, hG, _⟩ := hv
    have ho := HO.out
    rw [← Option.some.inj HRR.out] at ho
    obtain rfl := Option.some.inj ho
    exact ⟨rfl, HFR.out.below B6.out, (fun s hs => by cases hs), va, _, _, hG⟩
  ·have hge : decide (i < (l.length : Int)) = false := decide_eq_false hlt
   have hR := HP.out
   rw [List.drop_eq_nil_of_le (by omega), parseL] at hR
   have HRR := Aside0.mk (Option.some.inj hR)
   clear hR hlt hi0 hi1
   have ho := HO.out
   rw [← HRR.out] at ho
   simp only at ho
   obtain ⟨ck, hck, ho⟩ := Option.bind_eq_some_iff.mp ho
   have HCK := Aside0.mk hck
   obtain ⟨n1, hn1⟩ : ∃ n1, n1 = (s.ino 1).getD zI := ⟨_, rfl⟩
   rw [← hn1] at ho
   have HN1 := Aside0.mk hn1
   have hv := HV.out
   obtain ⟨va, bi2, bu2, hG, hA, hI, hU, hbi, hbu, hne, hgb, hok⟩ := hv
   have G1 := Aside0.mk hG
   have I1 := Aside0.mk hI
   have q0 : wr.cell? ⟨g, 0, none⟩ = some (.slice A l.length c) := (blk_cell hG 0).trans rfl
   clear hG hA hI hU hbi hbu hne hgb hok hck hn1 V3 F3
   by_cases c0 : ck = 0
   ·subst c0
    have HOO := Aside0.mk ho
    clear ho
    go_wp2_with (first | (go_at_call 26; refine (item_Check.calls k A c l 0 _ (HF.out _ HFR.out.1) HCC.out HCK.out).mono ?_; rintro e w2 ⟨rfl, hb2⟩; have B2 := Aside0.mk hb2; have q6 : w2.cell? ⟨g, 6, none⟩ = some (.map (some bi2)) := (blk_cell (blk_below G1.out hb2) 6).trans rfl; have lk := lookN (I1.out.below hb2) (show (0 : Int) ≤ 1 ∧ (1 : Int) < 4294967296 by decide) HN1.out; have fl := fieldI n1; clear hb2 q0))
    go_ret
    have hv := HV.out.below B2.out
    have ho := HOO.out
    by_cases c1 : n1.kd = 1
    ·rw [if_pos ⟨(by first | rfl | trivial), c1⟩] at ho
     obtain rfl := Option.some.inj ho
     obtain ⟨va, bi3, bu3, hG, _⟩ := id hv
     refine ⟨?_, HFR.out.below B2.out, (fun s' hs => by obtain rfl := Option.some.inj hs; exact hv), va, _, _, hG⟩
     show Ending.returned (.bool (n1.kd == 1)) = _
     rw [beq_iff_eq.2 c1]
     rfl
    ·rw [if_neg (fun h => c1 h.2)] at ho
     obtain rfl := Option.some.inj ho
     obtain ⟨va, bi3, bu3, hG, _⟩ := hv
     refine ⟨?_, HFR.out.below B2.out, (fun s' hs => by cases hs), va, _, _, hG⟩
     show Ending.returned (.bool (n1.kd == 1)) = _
     rw [beq_eq_false_iff_ne.2 c1]
     rfl
   ·rw [if_neg (fun h => c0 h.1)] at ho
    have e0 : (ck == 0) = false := beq_eq_false_iff_ne.2 c0
    have HOO := Aside0.mk ho
    clear ho c0
    go_wp2_with (first | (go_at_call 26; refine (item_Check.calls k A c l ck _ (HF.out _ HFR.out.1) HCC.out HCK.out).mono ?_; rintro e w2 ⟨rfl, hb2⟩; have B2 := Aside0.mk hb2; have q6 : w2.cell? ⟨g, 6, none⟩ = some (.map (some bi2)) := (blk_cell (blk_below G1.out hb2) 6).trans rfl; have lk := lookN (I1.out.below hb2) (show (0 : Int) ≤ 1 ∧ (1 : Int) < 4294967296 by decide) HN1.out; have fl := fieldI n1; clear hb2 q0))
    go_ret
    obtain ⟨va, bi3, bu3, hG, _⟩ := HV.out.below B2.out
    obtain rfl := Option.some.inj HOO.out
    exact ⟨rfl, HFR.out.below B2.out, (fun s' hs => by cases hs), va, _, _, hG⟩
end Go.Proofs.YthbljhmjppjcjaaGreatDoor.Z
end

section
/- dirs: (*Volume).look (printed by genlook.py). -/
namespace Go.Proofs.YthbljhmjppjcjaaGreatDoor.Z
open Go.RowKit Go.Proofs.YthbljhmjppjcjaaGreatDoorW.PrintWords Go.Proofs.YthbljhmjppjcjaaGreatDoorW.PrintLast Go.Proofs.YthbljhmjppjcjaaGreatDoorW.PrintMore
set_option linter.unusedVariables false
set_option linter.unusedSimpArgs false
attribute [local go_sem ↓] Go.wp_at_zero Go.wp_at_succ
def lookAll (s : VS) : List KItm → Bool
 | [] => true
 | x :: r => if x.f0 = 1 ∧ ¬ x.f1 = 1 then
   (if IntKind.u64.wrap ((s.up x.f1).getD (0, 0)).1 = IntKind.u64.wrap ((s.ino x.f1).getD zI).ln then
    (if ((s.ino x.f1).getD zI).kd = 1 then (if rootedL s.up s.all.length x.f1 = true then lookAll s r else false) else lookAll s r) else false) else lookAll s r
def lookF (k : Nat) (l : List VIT) : Option (Option VS) := (parseF k l).bind fun o => match o with
 | none => some none
 | some s => (misfitL k s s.all).bind fun b => if b = true then some none else some (if lookAll s s.all = true then some s else none)
theorem lookF.mono (l : List VIT) : ∀ k, LeO (lookF k l) (lookF (k + 1) l) := fun k => by
 unfold lookF
 refine LeO.bind (parseF.mono _ _) (fun o => ?_)
 cases o with
 | none => exact LeO.refl _
 | some s => exact LeO.bind (misfitL.mono _ _ _) (fun _ => LeO.refl _)
theorem VolR.setR {w : World} {g base : Nat} {it : Value} {d m sm : Int} {r : Bool} {s : VS} (h : VolR w g base it d m sm r s) : VolR (w.setCell ⟨g, 4, none⟩ (.bool true)) g base it d m sm true s := by
 obtain ⟨va, bi, bu, hG, hA, hI, hU, hbi, hbu, hne, hgb, hok⟩ := h
 exact ⟨va, bi, bu, blk_set hG 4 _, row_setg hA hgb 4 _, hI.move (Below.heap_setCell _ ⟨g, 4, none⟩ _ bi (by show bi ≠ g; omega)), hU.move (Below.heap_setCell _ ⟨g, 4, none⟩ _ bu (by show bu ≠ g; omega)), hbi, hbu, hne, hgb, hok⟩
set_option maxRecDepth 100000 in
set_option maxHeartbeats 12800000 in
theorem look_calls (k : Nat) (g : Nat) (A : Option Addr) (c : Nat) (l : List VIT) (d m sm : Int) (o : Option VS) (w : World) (hb : w.heap[g]? = some (volO (.slice A l.length c) (.slice none 0 0) (.map none) (.map none) d m sm false)) (hF : ∀ W', KeepBut w W' g none → Kd.C k71 W' A l.length l) (hc : l.length ≤ c) (h : lookF k l = some o) :
  Calls Tryz.prog 58 #[.pointer (some ⟨g, 0, none⟩)] w fun e w' => e = .returned (.tuple #[]) ∧ Fr g w w' ∧ (∀ s, o = some s → VolR w' g w.heap.size (.slice A l.length c) d m sm true s) ∧ ∃ va vi vu, w'.heap[g]? = some (volO (.slice A l.length c) va vi vu d m sm o.isSome) := by
 unfold lookF at h
 obtain ⟨po, hpo, h⟩ := Option.bind_eq_some_iff.mp h
 have HB := Aside0.mk hb
 have HF := Aside0.mk hF
 have HCC := Aside0.mk hc
 have HPO := Aside0.mk hpo
 have HO := Aside0.mk h
 have hnot : ∀ (x : Bool) (w : World), (Op.unary .not (.bool x)).run Tryz.prog w = .ok (.bool (!x)) w := fun _ _ => rfl
 have hmf : ∀ (fn : Fn) (first cap : Array Value) (w : World), (Instr.makeFunc fn first cap).run Tryz.prog w = .ok (.func fn first cap) w := fun _ _ _ _ => rfl
 clear hpo h hF hc hb
 cases po with
 | none =>
  go_enter Tryz.func58, Tryz.ntmps58
  go_wp2_with (first | (go_at_call 80; refine (parse_calls k g A c l d m sm none _ HB.out HF.out HCC.out HPO.out).mono ?_; rintro e w1 ⟨rfl, hf1, hv1, hb1⟩; have F1 := Aside0.mk hf1; have B1 := Aside0.mk hb1; clear hf1 hv1 hb1))
  refine bodyPost_ret (results_none rfl _ _ _) rfl ?_
  obtain rfl := Option.some.inj HO.out
  exact ⟨rfl, F1.out, (fun s hs => by cases hs), B1.out⟩
 | some s =>
  have ho := HO.out
  simp only at ho
  obtain ⟨mb, hmb, ho⟩ := Option.bind_eq_some_iff.mp ho
  have HMB := Aside0.mk hmb
  have HOO := Aside0.mk ho
  clear ho hmb HO
  cases mb with
  | true =>
   go_enter Tryz.func58, Tryz.ntmps58
   go_wp2_with (first | (go_at_call 80; refine (parse_calls k g A c l d m sm (some s) _ HB.out HF.out HCC.out HPO.out).mono ?_; rintro e w1 ⟨rfl, hf1, hv1, hb1⟩; have F1 := Aside0.mk hf1; have V1 := Aside0.mk (hv1 s rfl); obtain ⟨va, bi, bu, hG, hA, hI, hU, hbi, hbu, hne, hgb, hok⟩ := V1.out; obtain ⟨A1, c1, rfl⟩ := Kd.R_slice hA; have RA := Aside0.mk (Kd.R_reads' hA); have HOK := Aside0.mk hok; have G1 := Aside0.mk hG; have MI1 := Aside0.mk hI; have MU1 := Aside0.mk hU; have q5 : w1.cell? ⟨g, 5, none⟩ = some (.slice A1 s.all.length c1) := (blk_cell hG 5).trans rfl; clear hf1 hv1 hb1 hG hA hI hU hbi hbu hne hgb hok) | (go_at_call 81; refine (kcontains_calls k A1 c1 g w.heap.size (.slice A l.length c) d m sm false s true _ V1.out RA.out.2.2 RA.out.2.1 HMB.out).mono ?_; rintro e w2 ⟨rfl, hb2⟩; clear q5; have B2 := Aside0.mk hb2; have V2 := Aside0.mk (V1.out.below hb2); have q5 : w2.cell? ⟨g, 5, none⟩ = some (.slice A1 s.all.length c1) := (blk_cell (blk_below G1.out hb2) 5).trans rfl; clear hb2))
   refine bodyPost_ret (results_none rfl _ _ _) rfl ?_
   obtain rfl := Option.some.inj HOO.out
   obtain ⟨va3, bi3, bu3, hG3, _⟩ := V1.out.below B2.out
   exact ⟨rfl, F1.out.below B2.out, (fun s hs => by cases hs), va3, _, _, hG3⟩
  | false =>
   have hoo := HOO.out
   rw [if_neg (by decide)] at hoo
   have HLO := Aside0.mk (Option.some.inj hoo)
   clear hoo HOO
   go_enter Tryz.func58, Tryz.ntmps58
   go_wp2_with (first | (go_at_call 80; refine (parse_calls k g A c l d m sm (some s) _ HB.out HF.out HCC.out HPO.out).mono ?_; rintro e w1 ⟨rfl, hf1, hv1, hb1⟩; have F1 := Aside0.mk hf1; have V1 := Aside0.mk (hv1 s rfl); obtain ⟨va, bi, bu, hG, hA, hI, hU, hbi, hbu, hne, hgb, hok⟩ := V1.out; obtain ⟨A1, c1, rfl⟩ := Kd.R_slice hA; have RA := Aside0.mk (Kd.R_reads' hA); have HOK := Aside0.mk hok; have G1 := Aside0.mk hG; have MI1 := Aside0.mk hI; have MU1 := Aside0.mk hU; have q5 : w1.cell? ⟨g, 5, none⟩ = some (.slice A1 s.all.length c1) := (blk_cell hG 5).trans rfl; clear hf1 hv1 hb1 hG hA hI hU hbi hbu hne hgb hok) | (go_at_call 81; refine (kcontains_calls k A1 c1 g w.heap.size (.slice A l.length c) d m sm false s false _ V1.out RA.out.2.2 RA.out.2.1 HMB.out).mono ?_; rintro e w2 ⟨rfl, hb2⟩; clear q5; have B2 := Aside0.mk hb2; have V2 := Aside0.mk (V1.out.below hb2); have q5 : w2.cell? ⟨g, 5, none⟩ = some (.slice A1 s.all.length c1) := (blk_cell (blk_below G1.out hb2) 5).trans rfl; clear hb2))
   have C2 := Aside0.mk (Kd.C_below RA.out.2.2 B2.out)
   have G2 := Aside0.mk (blk_below G1.out B2.out)
   clear h ho q5 RA HB
   go_loopw [22] (fun vi wr => ∃ i : Int, vi = .int .i64 i ∧ Aside0 (0 ≤ i ∧ i ≤ s.all.length) ∧ Aside0 (Below w2.heap.size w2 wr) ∧ Aside0 (lookAll s (s.all.drop i.toNat) = lookAll s s.all)) (fun vi _ => s.all.length - (intOf vi).toNat)
   case atStart => exact ⟨0, rfl, ⟨by omega⟩, ⟨Below.refl _ _⟩, ⟨rfl⟩⟩
   case round =>
    obtain ⟨i, rfl, HX, HBW, HRL⟩ := hrel
    obtain ⟨hi0, hi1⟩ := HX.out
    by_cases hlt : i < (s.all.length : Int)
    ·obtain ⟨ad, hAd, q0, q1, q2, q3, q4⟩ := at_Kept C2.out i hi0 hlt
     subst hAd
     replace q0 := (HBW.out.cell (World.block_lt_of_cell? w2 _ q0)).trans q0
     replace q1 := (HBW.out.cell (World.block_lt_of_cell? w2 _ q1)).trans q1
     replace q2 := (HBW.out.cell (World.block_lt_of_cell? w2 _ q2)).trans q2
     replace q3 := (HBW.out.cell (World.block_lt_of_cell? w2 _ q3)).trans q3
     replace q4 := (HBW.out.cell (World.block_lt_of_cell? w2 _ q4)).trans q4
     have hlt2 : decide (i < (s.all.length : Int)) = true := decide_eq_true hlt
     have p0 := eq_true hi0
     have p1 := eq_true hlt
     obtain ⟨x, hx⟩ : ∃ x, x = rd_Kept s.all i := ⟨_, rfl⟩
     have hR0 := HRL.out
     have hd := drop_Kept hi0 hlt
     have hmem : x ∈ s.all := List.mem_of_mem_drop (by rw [hd, ← hx]; exact List.mem_cons_self : x ∈ s.all.drop i.toNat)
     rw [hd, lookAll, ← hx] at hR0
     rw [← hx] at q0 q1 q2 q3 q4
     have HXR := Aside0.mk (HOK.out.2.1 x hmem)
     have ew : wrap64 (i + 1) = i + 1 := by have := HOK.out.2.2.1; unfold wrap64; omega
     have EW := Aside0.mk ew
     have LT := Aside0.mk hlt
     have HR0 := Aside0.mk hR0
     clear hmem hd ew hlt hi0 hi1 hx hR0
     by_cases hk : x.f0 = 1
     ·have e0 : (x.f0 != 1) = false := bne_eq_false_iff_eq.2 hk
      by_cases hk1 : x.f1 = 1
      ·have e1 : (x.f1 == 1) = true := beq_iff_eq.2 hk1
       have HR2 := Aside0.mk (show lookAll s (s.all.drop (i + 1).toNat) = lookAll s s.all by have := HR0.out; rw [if_neg (fun h => h.2 hk1)] at this; exact this)
       clear HR0 hk hk1
       go_wp2_with (first | ((with_reducible refine gate_dst (N := 3) rfl ?_); refine var_event (N := 3) (T := 168) (n := 5) (zc := #[.int .u8 0, .int .u32 0, .string ⟨#[]⟩, .int .u32 0, .string ⟨#[]⟩]) (cs := #[.int .u8 x.f0, .int .u32 x.f1, .string x.f2, .int .u32 x.f3, .string x.f4]) rfl rfl rfl (.tmp 25) rfl rfl ?hr (by kernel_rfl) rfl rfl rfl ?hx ?hN ?_; (case hx => intro p_; rfl); (case hN => intro p_; rfl); (case hr => first | (go_simp; done) | (go_simp; rfl)); intro gx hgx w3 hx3 hb3; have X3 := Aside0.mk hx3; have B3 := Aside0.mk (below_step HBW.out hb3); have y0 : w3.cell? ⟨gx, 0, none⟩ = some (.int .u8 x.f0) := (blk_cell X3.out 0).trans rfl; have y1 : w3.cell? ⟨gx, 1, none⟩ = some (.int .u32 x.f1) := (blk_cell X3.out 1).trans rfl; clear hx3 hb3 hgx q0 q1 q2 q3 q4))
       have hx := HX.out
       have hl := LT.out
       go_roundw
       case rel => exact ⟨i + 1, by rw [EW.out], ⟨by omega⟩, ⟨B3.out⟩, HR2⟩
       case measure =>
        simp [EW.out, intOf]
        omega
      ·have e1 : (x.f1 == 1) = false := beq_eq_false_iff_ne.2 hk1
       obtain ⟨n, hn⟩ : ∃ n, n = (s.ino x.f1).getD zI := ⟨_, rfl⟩
       obtain ⟨y, hy⟩ : ∃ y, y = (s.up x.f1).getD (0, 0) := ⟨_, rfl⟩
       have hR := HR0.out
       rw [if_pos ⟨hk, hk1⟩, ← hn, ← hy] at hR
       have HR := Aside0.mk hR
       have HN := Aside0.mk hn
       have HY := Aside0.mk hy
       clear hR hn hy hk hk1 HR0
       go_wp2_with (first | ((with_reducible refine gate_dst (N := 3) rfl ?_); refine var_event (N := 3) (T := 168) (n := 5) (zc := #[.int .u8 0, .int .u32 0, .string ⟨#[]⟩, .int .u32 0, .string ⟨#[]⟩]) (cs := #[.int .u8 x.f0, .int .u32 x.f1, .string x.f2, .int .u32 x.f3, .string x.f4]) rfl rfl rfl (.tmp 25) rfl rfl ?hr (by kernel_rfl) rfl rfl rfl ?hx ?hN ?_; (case hx => intro p_; rfl); (case hN => intro p_; rfl); (case hr => first | (go_simp; done) | (go_simp; rfl)); intro gx hgx w3 hx3 hb3; have X3 := Aside0.mk hx3; have B3 := Aside0.mk (below_step HBW.out hb3); have y0 : w3.cell? ⟨gx, 0, none⟩ = some (.int .u8 x.f0) := (blk_cell X3.out 0).trans rfl; have y1 : w3.cell? ⟨gx, 1, none⟩ = some (.int .u32 x.f1) := (blk_cell X3.out 1).trans rfl; clear hx3 hb3 hgx q0 q1 q2 q3 q4))
       have G3 := Aside0.mk (blk_below G2.out B3.out)
       have V3 := Aside0.mk (V2.out.below B3.out)
       have I3 := Aside0.mk ((MI1.out.below B2.out).below B3.out)
       have U3 := Aside0.mk ((MU1.out.below B2.out).below B3.out)
       refine start_ (n := 10) (S := (fun w' => w'.cell? ⟨g, 6, none⟩ = some (.map (some bi)) ∧ w'.cell? ⟨gx, 1, none⟩ = some (.int .u32 x.f1) ∧ (Instr.lookup 138 (.map (some bi)) (.int .u32 x.f1) false).run Tryz.prog w' = .ok (.agg #[.int .u8 n.kd, .int .u16 n.md, .int .u32 n.ln, .int .u32 n.sz, .string n.tg]) w')) (ds := [9]) #[false, false, false, false, false, false, false, false, false, false] (by kernel_rfl) rfl rfl ⟨(blk_cell (blk_below G3.out (show Below w3.heap.size w3 w3.drew from below_drew1 (Below.refl _ _))) 6).trans rfl, (blk_cell (blk_below X3.out (show Below w3.heap.size w3 w3.drew from below_drew1 (Below.refl _ _))) 1).trans rfl, (lookN (I3.out.move rfl : MapF Tryz.prog 22 w3.drew bi _ _) HXR.out HN.out)⟩ (fun hHeld => ?_)
       clear y0 y1
       refine pure_ (i := 0) (N := some 36) (v := ?_) (a' := ?_) #[true, false, false, false, false, false, false, false, false, false] rfl rfl (by kernel_rfl) (fun _ _ _ h => h) (Or.inl ⟨by rfl, ?_⟩) ?_ ?_
       rotate_left
       ·intro w'
        go_simp
        with_reducible rfl
       rotate_left
       ·simp only [Act.put, List.setIfInBounds_toArray, List.set_cons_zero, List.set_cons_succ, i64_w, i32_w]
        rfl
       refine pure_ (i := 1) (N := some 37) (v := ?_) (a' := ?_) #[true, true, false, false, false, false, false, false, false, false] rfl rfl (by kernel_rfl) (fun _ _ _ h => h) (Or.inl ⟨by rfl, ?_⟩) ?_ ?_
       rotate_left
       ·intro w'
        go_simp
        with_reducible rfl
       rotate_left
       ·simp only [Act.put, List.setIfInBounds_toArray, List.set_cons_zero, List.set_cons_succ, i64_w, i32_w]
        rfl
       refine pure_ (i := 2) (N := some 38) (v := ?_) (a' := ?_) #[true, true, true, false, false, false, false, false, false, false] rfl rfl (by kernel_rfl) (fun _ _ _ h => h) (Or.inl ⟨by rfl, ?_⟩) ?_ ?_
       rotate_left
       ·intro w'
        go_simp
        with_reducible rfl
       rotate_left
       ·simp only [Act.put, List.setIfInBounds_toArray, List.set_cons_zero, List.set_cons_succ, i64_w, i32_w]
        rfl
       refine take_ (i := 3) (N := some 39) (v := ?_) (a' := ?_) #[true, true, true, true, false, false, false, false, false, false] rfl rfl (by kernel_rfl) (fun _ _ _ h => h) (Or.inl ⟨by rfl, ?_⟩) hHeld ?_ ?_
       rotate_left
       ·rintro w' ⟨s0, s1, s2⟩
        go_simp
        with_reducible rfl
       rotate_left
       ·simp only [Act.put, List.setIfInBounds_toArray, List.set_cons_zero, List.set_cons_succ, i64_w, i32_w]
        rfl
       refine pure_ (i := 4) (N := some 40) (v := ?_) (a' := ?_) #[true, true, true, true, true, false, false, false, false, false] rfl rfl (by kernel_rfl) (fun _ _ _ h => h) (Or.inl ⟨by rfl, ?_⟩) ?_ ?_
       rotate_left
       ·intro w'
        go_simp
        with_reducible rfl
       rotate_left
       ·simp only [Act.put, List.setIfInBounds_toArray, List.set_cons_zero, List.set_cons_succ, i64_w, i32_w]
        rfl
       refine pure_ (i := 5) (N := some 41) (v := ?_) (a' := ?_) #[true, true, true, true, true, true, false, false, false, false] rfl rfl (by kernel_rfl) (fun _ _ _ h => h) (Or.inl ⟨by rfl, ?_⟩) ?_ ?_
       rotate_left
       ·intro w'
        go_simp
        with_reducible rfl
       rotate_left
       ·simp only [Act.put, List.setIfInBounds_toArray, List.set_cons_zero, List.set_cons_succ, i64_w, i32_w]
        rfl
       refine take_ (i := 6) (N := some 42) (v := ?_) (a' := ?_) #[true, true, true, true, true, true, true, false, false, false] rfl rfl (by kernel_rfl) (fun _ _ _ h => h) (Or.inl ⟨by rfl, ?_⟩) hHeld ?_ ?_
       rotate_left
       ·rintro w' ⟨s0, s1, s2⟩
        go_simp
        with_reducible rfl
       rotate_left
       ·simp only [Act.put, List.setIfInBounds_toArray, List.set_cons_zero, List.set_cons_succ, i64_w, i32_w]
        rfl
       refine take_ (i := 7) (N := some 43) (v := ?_) (a' := ?_) #[true, true, true, true, true, true, true, true, false, false] rfl rfl (by kernel_rfl) (fun _ _ _ h => h) (Or.inl ⟨by rfl, ?_⟩) hHeld ?_ ?_
       rotate_left
       ·rintro w' ⟨s0, s1, s2⟩
        go_simp
        with_reducible rfl
       rotate_left
       ·simp only [Act.put, List.setIfInBounds_toArray, List.set_cons_zero, List.set_cons_succ, i64_w, i32_w]
        rfl
       refine one_ (i := 8) (N := some 4) #[true, true, true, true, true, true, true, true, true, false] rfl rfl (by kernel_rfl) (by decide) (fun K hK => ?_)
       refine box_step (N := 4) (cs := #[.int .u8 0, .int .u16 0, .int .u32 0, .int .u32 0, .string ⟨#[]⟩]) (t := 33) (by rfl) rfl (by first | (go_simp; done) | (go_simp; rfl)) ?_
       intro gn hgn w4 hx4 hb4
       have Z4 := Aside0.mk hx4
       have B4 := Aside0.mk (show Below w3.heap.size w3 w4 from (below_drew1 (Below.refl w3.heap.size w3)).trans hb4)
       have GN := Aside0.mk (show w3.heap.size ≤ gn by rw [hgn]; exact Nat.le_refl _)
       clear hx4 hb4 hgn
       refine hK.out _ _ ⟨(blk_cell (blk_below G3.out B4.out) 6).trans rfl, (blk_cell (blk_below X3.out B4.out) 1).trans rfl, (lookN (I3.out.below B4.out) HXR.out HN.out)⟩ (fun hHeld => ?_)
       clear hK K
       refine norm_ (a' := ?_) ?_ ?_
       rotate_left
       ·show Act.put _ (some 4) _ = _
        simp only [Act.put, List.setIfInBounds_toArray, List.set_cons_zero, List.set_cons_succ, i64_w, i32_w]
        rfl
       refine last_ (i := 9) (N := none) #[true, true, true, true, true, true, true, true, true, true] rfl rfl (by kernel_rfl) (by decide) (fun K hK => ?_)
       refine var_store_step (cs := #[.int .u8 n.kd, .int .u16 n.md, .int .u32 n.ln, .int .u32 n.sz, .string n.tg]) (n := 5) (by rfl) (.tmp 4) (.tmp 43) rfl rfl rfl rfl (by kernel_rfl) Z4.out rfl rfl rfl ?_
       intro w5 hx5 hb5
       have Z5 := Aside0.mk hx5
       have B5 := Aside0.mk (hb5 _ _ B4.out GN.out)
       refine hK.out _ _ ?_
       clear hK K hx5 hb5 Z4
       refine done_ (by kernel_rfl) ?_
       clear hHeld B4 GN
       have X5 := Aside0.mk (blk_below X3.out B5.out)
       have G5 := Aside0.mk (blk_below G3.out B5.out)
       have U5 := Aside0.mk (U3.out.below B5.out)
       have V5 := Aside0.mk (V3.out.below B5.out)
       have BW := Aside0.mk (below_step B3.out B5.out)
       clear X3 G3 U3 I3 V3 B5 B3
       go_wp2
       refine start_ (n := 27) (S := (fun w' => w'.cell? ⟨g, 7, none⟩ = some (.map (some bu)) ∧ w'.cell? ⟨gx, 1, none⟩ = some (.int .u32 x.f1) ∧ w'.cell? ⟨gn, 2, none⟩ = some (.int .u32 n.ln) ∧ w'.cell? ⟨gn, 0, none⟩ = some (.int .u8 n.kd) ∧ (Instr.lookup 139 (.map (some bu)) (.int .u32 x.f1) false).run Tryz.prog w' = .ok (.agg #[.int .i64 y.1, .int .u32 y.2]) w')) (ds := []) #[false, false, false, false, false, false, false, false, false, false, false, false, false, false, false, false, false, false, false, false, false, false, false, false, false, false, false] (by kernel_rfl) rfl rfl ⟨(blk_cell (blk_below G5.out (show Below w5.heap.size w5 w5.drew from below_drew1 (Below.refl _ _))) 7).trans rfl, (blk_cell (blk_below X5.out (show Below w5.heap.size w5 w5.drew from below_drew1 (Below.refl _ _))) 1).trans rfl, (blk_cell (blk_below Z5.out (show Below w5.heap.size w5 w5.drew from below_drew1 (Below.refl _ _))) 2).trans rfl, (blk_cell (blk_below Z5.out (show Below w5.heap.size w5 w5.drew from below_drew1 (Below.refl _ _))) 0).trans rfl, (lookW (U5.out.below (show Below w5.heap.size w5 w5.drew from below_drew1 (Below.refl _ _))) HXR.out HY.out)⟩ (fun hHeld => ?_)
       refine pure_ (i := 0) (N := some 44) (v := ?_) (a' := ?_) #[true, false, false, false, false, false, false, false, false, false, false, false, false, false, false, false, false, false, false, false, false, false, false, false, false, false, false] rfl rfl (by kernel_rfl) (fun _ _ _ h => h) (Or.inl ⟨by rfl, ?_⟩) ?_ ?_
       rotate_left
       ·intro w'
        go_simp
        with_reducible rfl
       rotate_left
       ·simp only [Act.put, List.setIfInBounds_toArray, List.set_cons_zero, List.set_cons_succ, i64_w, i32_w]
        rfl
       refine pure_ (i := 1) (N := some 45) (v := ?_) (a' := ?_) #[true, true, false, false, false, false, false, false, false, false, false, false, false, false, false, false, false, false, false, false, false, false, false, false, false, false, false] rfl rfl (by kernel_rfl) (fun _ _ _ h => h) (Or.inl ⟨by rfl, ?_⟩) ?_ ?_
       rotate_left
       ·intro w'
        go_simp
        with_reducible rfl
       rotate_left
       ·simp only [Act.put, List.setIfInBounds_toArray, List.set_cons_zero, List.set_cons_succ, i64_w, i32_w]
        rfl
       refine pure_ (i := 2) (N := some 46) (v := ?_) (a' := ?_) #[true, true, true, false, false, false, false, false, false, false, false, false, false, false, false, false, false, false, false, false, false, false, false, false, false, false, false] rfl rfl (by kernel_rfl) (fun _ _ _ h => h) (Or.inl ⟨by rfl, ?_⟩) ?_ ?_
       rotate_left
       ·intro w'
        go_simp
        with_reducible rfl
       rotate_left
       ·simp only [Act.put, List.setIfInBounds_toArray, List.set_cons_zero, List.set_cons_succ, i64_w, i32_w]
        rfl
       refine take_ (i := 3) (N := some 47) (v := ?_) (a' := ?_) #[true, true, true, true, false, false, false, false, false, false, false, false, false, false, false, false, false, false, false, false, false, false, false, false, false, false, false] rfl rfl (by kernel_rfl) (fun _ _ _ h => h) (Or.inl ⟨by rfl, ?_⟩) hHeld ?_ ?_
       rotate_left
       ·rintro w' ⟨s0, s1, s2, s3, s4⟩
        go_simp
        with_reducible rfl
       rotate_left
       ·simp only [Act.put, List.setIfInBounds_toArray, List.set_cons_zero, List.set_cons_succ, i64_w, i32_w]
        rfl
       refine pure_ (i := 4) (N := some 48) (v := ?_) (a' := ?_) #[true, true, true, true, true, false, false, false, false, false, false, false, false, false, false, false, false, false, false, false, false, false, false, false, false, false, false] rfl rfl (by kernel_rfl) (fun _ _ _ h => h) (Or.inl ⟨by rfl, ?_⟩) ?_ ?_
       rotate_left
       ·intro w'
        go_simp
        with_reducible rfl
       rotate_left
       ·simp only [Act.put, List.setIfInBounds_toArray, List.set_cons_zero, List.set_cons_succ, i64_w, i32_w]
        rfl
       refine pure_ (i := 5) (N := some 49) (v := ?_) (a' := ?_) #[true, true, true, true, true, true, false, false, false, false, false, false, false, false, false, false, false, false, false, false, false, false, false, false, false, false, false] rfl rfl (by kernel_rfl) (fun _ _ _ h => h) (Or.inl ⟨by rfl, ?_⟩) ?_ ?_
       rotate_left
       ·intro w'
        go_simp
        with_reducible rfl
       rotate_left
       ·simp only [Act.put, List.setIfInBounds_toArray, List.set_cons_zero, List.set_cons_succ, i64_w, i32_w]
        rfl
       refine take_ (i := 6) (N := some 50) (v := ?_) (a' := ?_) #[true, true, true, true, true, true, true, false, false, false, false, false, false, false, false, false, false, false, false, false, false, false, false, false, false, false, false] rfl rfl (by kernel_rfl) (fun _ _ _ h => h) (Or.inl ⟨by rfl, ?_⟩) hHeld ?_ ?_
       rotate_left
       ·rintro w' ⟨s0, s1, s2, s3, s4⟩
        go_simp
        with_reducible rfl
       rotate_left
       ·simp only [Act.put, List.setIfInBounds_toArray, List.set_cons_zero, List.set_cons_succ, i64_w, i32_w]
        rfl
       refine take_ (i := 7) (N := some 51) (v := ?_) (a' := ?_) #[true, true, true, true, true, true, true, true, false, false, false, false, false, false, false, false, false, false, false, false, false, false, false, false, false, false, false] rfl rfl (by kernel_rfl) (fun _ _ _ h => h) (Or.inl ⟨by rfl, ?_⟩) hHeld ?_ ?_
       rotate_left
       ·rintro w' ⟨s0, s1, s2, s3, s4⟩
        go_simp
        with_reducible rfl
       rotate_left
       ·simp only [Act.put, List.setIfInBounds_toArray, List.set_cons_zero, List.set_cons_succ, i64_w, i32_w]
        rfl
       refine pure_ (i := 8) (N := some 52) (v := ?_) (a' := ?_) #[true, true, true, true, true, true, true, true, true, false, false, false, false, false, false, false, false, false, false, false, false, false, false, false, false, false, false] rfl rfl (by kernel_rfl) (fun _ _ _ h => h) (Or.inl ⟨by rfl, ?_⟩) ?_ ?_
       rotate_left
       ·intro w'
        go_simp
        rfl
       rotate_left
       ·simp only [Act.put, List.setIfInBounds_toArray, List.set_cons_zero, List.set_cons_succ, i64_w, i32_w]
        rfl
       refine pure_ (i := 9) (N := some 53) (v := ?_) (a' := ?_) #[true, true, true, true, true, true, true, true, true, true, false, false, false, false, false, false, false, false, false, false, false, false, false, false, false, false, false] rfl rfl (by kernel_rfl) (fun _ _ _ h => h) (Or.inl ⟨by rfl, ?_⟩) ?_ ?_
       rotate_left
       ·intro w'
        go_simp
        with_reducible rfl
       rotate_left
       ·simp only [Act.put, List.setIfInBounds_toArray, List.set_cons_zero, List.set_cons_succ, i64_w, i32_w]
        rfl
       refine pure_ (i := 10) (N := some 54) (v := ?_) (a' := ?_) #[true, true, true, true, true, true, true, true, true, true, true, false, false, false, false, false, false, false, false, false, false, false, false, false, false, false, false] rfl rfl (by kernel_rfl) (fun _ _ _ h => h) (Or.inl ⟨by rfl, ?_⟩) ?_ ?_
       rotate_left
       ·intro w'
        go_simp
        with_reducible rfl
       rotate_left
       ·simp only [Act.put, List.setIfInBounds_toArray, List.set_cons_zero, List.set_cons_succ, i64_w, i32_w]
        rfl
       refine take_ (i := 11) (N := some 55) (v := ?_) (a' := ?_) #[true, true, true, true, true, true, true, true, true, true, true, true, false, false, false, false, false, false, false, false, false, false, false, false, false, false, false] rfl rfl (by kernel_rfl) (fun _ _ _ h => h) (Or.inl ⟨by rfl, ?_⟩) hHeld ?_ ?_
       rotate_left
       ·rintro w' ⟨s0, s1, s2, s3, s4⟩
        go_simp
        with_reducible rfl
       rotate_left
       ·simp only [Act.put, List.setIfInBounds_toArray, List.set_cons_zero, List.set_cons_succ, i64_w, i32_w]
        rfl
       refine pure_ (i := 12) (N := some 56) (v := ?_) (a' := ?_) #[true, true, true, true, true, true, true, true, true, true, true, true, true, false, false, false, false, false, false, false, false, false, false, false, false, false, false] rfl rfl (by kernel_rfl) (fun _ _ _ h => h) (Or.inl ⟨by rfl, ?_⟩) ?_ ?_
       rotate_left
       ·intro w'
        go_simp
        with_reducible rfl
       rotate_left
       ·simp only [Act.put, List.setIfInBounds_toArray, List.set_cons_zero, List.set_cons_succ, i64_w, i32_w]
        rfl
       refine pure_ (i := 13) (N := some 57) (v := ?_) (a' := ?_) #[true, true, true, true, true, true, true, true, true, true, true, true, true, true, false, false, false, false, false, false, false, false, false, false, false, false, false] rfl rfl (by kernel_rfl) (fun _ _ _ h => h) (Or.inl ⟨by rfl, ?_⟩) ?_ ?_
       rotate_left
       ·intro w'
        go_simp
        with_reducible rfl
       rotate_left
       ·simp only [Act.put, List.setIfInBounds_toArray, List.set_cons_zero, List.set_cons_succ, i64_w, i32_w]
        rfl
       refine pure_ (i := 14) (N := some 58) (v := ?_) (a' := ?_) #[true, true, true, true, true, true, true, true, true, true, true, true, true, true, true, false, false, false, false, false, false, false, false, false, false, false, false] rfl rfl (by kernel_rfl) (fun _ _ _ h => h) (Or.inl ⟨by rfl, ?_⟩) ?_ ?_
       rotate_left
       ·intro w'
        go_simp
        with_reducible rfl
       rotate_left
       ·simp only [Act.put, List.setIfInBounds_toArray, List.set_cons_zero, List.set_cons_succ, i64_w, i32_w]
        rfl
       generalize hcb : (IntKind.u64.wrap y.1 != IntKind.u64.wrap n.ln) = cb
       cases cb with
       | true =>
        refine pure_ (i := 15) (N := some 59) (v := undef) (a' := ?_) #[true, true, true, true, true, true, true, true, true, true, true, true, true, true, true, true, false, false, false, false, false, false, false, false, false, false, false] rfl rfl (by kernel_rfl) (fun _ _ _ h => h) (Or.inr ⟨by rfl, rfl⟩) ?_ ?_
        rotate_left
        ·simp only [Act.put, List.setIfInBounds_toArray, List.set_cons_zero, List.set_cons_succ, i64_w, i32_w]
         rfl
        refine pure_ (i := 16) (N := some 60) (v := undef) (a' := ?_) #[true, true, true, true, true, true, true, true, true, true, true, true, true, true, true, true, true, false, false, false, false, false, false, false, false, false, false] rfl rfl (by kernel_rfl) (fun _ _ _ h => h) (Or.inr ⟨by rfl, rfl⟩) ?_ ?_
        rotate_left
        ·simp only [Act.put, List.setIfInBounds_toArray, List.set_cons_zero, List.set_cons_succ, i64_w, i32_w]
         rfl
        refine pure_ (i := 17) (N := some 61) (v := undef) (a' := ?_) #[true, true, true, true, true, true, true, true, true, true, true, true, true, true, true, true, true, true, false, false, false, false, false, false, false, false, false] rfl rfl (by kernel_rfl) (fun _ _ _ h => h) (Or.inr ⟨by rfl, rfl⟩) ?_ ?_
        rotate_left
        ·simp only [Act.put, List.setIfInBounds_toArray, List.set_cons_zero, List.set_cons_succ, i64_w, i32_w]
         rfl
        refine pure_ (i := 18) (N := some 62) (v := undef) (a' := ?_) #[true, true, true, true, true, true, true, true, true, true, true, true, true, true, true, true, true, true, true, false, false, false, false, false, false, false, false] rfl rfl (by kernel_rfl) (fun _ _ _ h => h) (Or.inr ⟨by rfl, rfl⟩) ?_ ?_
        rotate_left
        ·simp only [Act.put, List.setIfInBounds_toArray, List.set_cons_zero, List.set_cons_succ, i64_w, i32_w]
         rfl
        refine pure_ (i := 19) (N := some 63) (v := undef) (a' := ?_) #[true, true, true, true, true, true, true, true, true, true, true, true, true, true, true, true, true, true, true, true, false, false, false, false, false, false, false] rfl rfl (by kernel_rfl) (fun _ _ _ h => h) (Or.inr ⟨by rfl, rfl⟩) ?_ ?_
        rotate_left
        ·simp only [Act.put, List.setIfInBounds_toArray, List.set_cons_zero, List.set_cons_succ, i64_w, i32_w]
         rfl
        refine pure_ (i := 20) (N := some 64) (v := undef) (a' := ?_) #[true, true, true, true, true, true, true, true, true, true, true, true, true, true, true, true, true, true, true, true, true, false, false, false, false, false, false] rfl rfl (by kernel_rfl) (fun _ _ _ h => h) (Or.inr ⟨by rfl, rfl⟩) ?_ ?_
        rotate_left
        ·simp only [Act.put, List.setIfInBounds_toArray, List.set_cons_zero, List.set_cons_succ, i64_w, i32_w]
         rfl
        refine pure_ (i := 21) (N := some 65) (v := undef) (a' := ?_) #[true, true, true, true, true, true, true, true, true, true, true, true, true, true, true, true, true, true, true, true, true, true, false, false, false, false, false] rfl rfl (by kernel_rfl) (fun _ _ _ h => h) (Or.inr ⟨by rfl, rfl⟩) ?_ ?_
        rotate_left
        ·simp only [Act.put, List.setIfInBounds_toArray, List.set_cons_zero, List.set_cons_succ, i64_w, i32_w]
         rfl
        refine pure_ (i := 22) (N := some 66) (v := undef) (a' := ?_) #[true, true, true, true, true, true, true, true, true, true, true, true, true, true, true, true, true, true, true, true, true, true, true, false, false, false, false] rfl rfl (by kernel_rfl) (fun _ _ _ h => h) (Or.inr ⟨by rfl, rfl⟩) ?_ ?_
        rotate_left
        ·simp only [Act.put, List.setIfInBounds_toArray, List.set_cons_zero, List.set_cons_succ, i64_w, i32_w]
         rfl
        refine pure_ (i := 23) (N := some 67) (v := undef) (a' := ?_) #[true, true, true, true, true, true, true, true, true, true, true, true, true, true, true, true, true, true, true, true, true, true, true, true, false, false, false] rfl rfl (by kernel_rfl) (fun _ _ _ h => h) (Or.inr ⟨by rfl, rfl⟩) ?_ ?_
        rotate_left
        ·simp only [Act.put, List.setIfInBounds_toArray, List.set_cons_zero, List.set_cons_succ, i64_w, i32_w]
         rfl
        refine pure_ (i := 24) (N := some 68) (v := undef) (a' := ?_) #[true, true, true, true, true, true, true, true, true, true, true, true, true, true, true, true, true, true, true, true, true, true, true, true, true, false, false] rfl rfl (by kernel_rfl) (fun _ _ _ h => h) (Or.inr ⟨by rfl, rfl⟩) ?_ ?_
        rotate_left
        ·simp only [Act.put, List.setIfInBounds_toArray, List.set_cons_zero, List.set_cons_succ, i64_w, i32_w]
         rfl
        refine pure_ (i := 25) (N := some 69) (v := undef) (a' := ?_) #[true, true, true, true, true, true, true, true, true, true, true, true, true, true, true, true, true, true, true, true, true, true, true, true, true, true, false] rfl rfl (by kernel_rfl) (fun _ _ _ h => h) (Or.inr ⟨by rfl, rfl⟩) ?_ ?_
        rotate_left
        ·simp only [Act.put, List.setIfInBounds_toArray, List.set_cons_zero, List.set_cons_succ, i64_w, i32_w]
         rfl
        refine pure_ (i := 26) (N := some 70) (v := ?_) (a' := ?_) #[true, true, true, true, true, true, true, true, true, true, true, true, true, true, true, true, true, true, true, true, true, true, true, true, true, true, true] rfl rfl (by kernel_rfl) (fun _ _ _ h => h) (Or.inl ⟨by rfl, ?_⟩) ?_ ?_
        rotate_left
        ·intro w'
         go_simp
         with_reducible rfl
        rotate_left
        ·simp only [Act.put, List.setIfInBounds_toArray, List.set_cons_zero, List.set_cons_succ, i64_w, i32_w]
         rfl
        refine done_ (by kernel_rfl) ?_
        clear hHeld
        have h0 : ¬ IntKind.u64.wrap y.1 = IntKind.u64.wrap n.ln := bne_iff_ne.1 hcb
        have hR := HR.out
        rw [if_neg h0] at hR
        have hq := HLO.out
        rw [← hR, if_neg (by decide)] at hq
        obtain rfl := hq
        clear hR h0 hcb
        go_wp2
        refine bodyPost_ret (results_none rfl _ _ _) rfl ?_
        obtain ⟨va9, bi9, bu9, hG9, _⟩ := V5.out.below (show Below w5.heap.size w5 w5.drew from below_drew1 (Below.refl _ _))
        exact ⟨rfl, ((F1.out.below B2.out).below BW.out).below (show Below w5.heap.size w5 w5.drew from below_drew1 (Below.refl _ _)), (fun s hs => by cases hs), va9, _, _, hG9⟩
       | false =>
        have h0 : IntKind.u64.wrap y.1 = IntKind.u64.wrap n.ln := bne_eq_false_iff_eq.1 hcb
        have hR := HR.out
        rw [if_pos h0] at hR
        clear h0 hcb
        refine pure_ (i := 15) (N := some 59) (v := ?_) (a' := ?_) #[true, true, true, true, true, true, true, true, true, true, true, true, true, true, true, true, false, false, false, false, false, false, false, false, false, false, false] rfl rfl (by kernel_rfl) (fun _ _ _ h => h) (Or.inl ⟨by rfl, ?_⟩) ?_ ?_
        rotate_left
        ·intro w'
         go_simp
         with_reducible rfl
        rotate_left
        ·simp only [Act.put, List.setIfInBounds_toArray, List.set_cons_zero, List.set_cons_succ, i64_w, i32_w]
         rfl
        refine take_ (i := 16) (N := some 60) (v := ?_) (a' := ?_) #[true, true, true, true, true, true, true, true, true, true, true, true, true, true, true, true, true, false, false, false, false, false, false, false, false, false, false] rfl rfl (by kernel_rfl) (fun _ _ _ h => h) (Or.inl ⟨by rfl, ?_⟩) hHeld ?_ ?_
        rotate_left
        ·rintro w' ⟨s0, s1, s2, s3, s4⟩
         go_simp
         with_reducible rfl
        rotate_left
        ·simp only [Act.put, List.setIfInBounds_toArray, List.set_cons_zero, List.set_cons_succ, i64_w, i32_w]
         rfl
        refine pure_ (i := 17) (N := some 61) (v := ?_) (a' := ?_) #[true, true, true, true, true, true, true, true, true, true, true, true, true, true, true, true, true, true, false, false, false, false, false, false, false, false, false] rfl rfl (by kernel_rfl) (fun _ _ _ h => h) (Or.inl ⟨by rfl, ?_⟩) ?_ ?_
        rotate_left
        ·intro w'
         go_simp
         with_reducible rfl
        rotate_left
        ·simp only [Act.put, List.setIfInBounds_toArray, List.set_cons_zero, List.set_cons_succ, i64_w, i32_w]
         rfl
        refine pure_ (i := 18) (N := some 62) (v := ?_) (a' := ?_) #[true, true, true, true, true, true, true, true, true, true, true, true, true, true, true, true, true, true, true, false, false, false, false, false, false, false, false] rfl rfl (by kernel_rfl) (fun _ _ _ h => h) (Or.inl ⟨by rfl, ?_⟩) ?_ ?_
        rotate_left
        ·intro w'
         go_simp
         with_reducible rfl
        rotate_left
        ·simp only [Act.put, List.setIfInBounds_toArray, List.set_cons_zero, List.set_cons_succ, i64_w, i32_w]
         rfl
        generalize hkb : (n.kd == 1) = kb
        cases kb with
        | false =>
         rw [if_neg (beq_eq_false_iff_ne.1 hkb)] at hR
         have HR2 := Aside0.mk hR
         clear hR hkb
         refine pure_ (i := 19) (N := some 63) (v := undef) (a' := ?_) #[true, true, true, true, true, true, true, true, true, true, true, true, true, true, true, true, true, true, true, true, false, false, false, false, false, false, false] rfl rfl (by kernel_rfl) (fun _ _ _ h => h) (Or.inr ⟨by rfl, rfl⟩) ?_ ?_
         rotate_left
         ·simp only [Act.put, List.setIfInBounds_toArray, List.set_cons_zero, List.set_cons_succ, i64_w, i32_w]
          rfl
         refine pure_ (i := 20) (N := some 64) (v := undef) (a' := ?_) #[true, true, true, true, true, true, true, true, true, true, true, true, true, true, true, true, true, true, true, true, true, false, false, false, false, false, false] rfl rfl (by kernel_rfl) (fun _ _ _ h => h) (Or.inr ⟨by rfl, rfl⟩) ?_ ?_
         rotate_left
         ·simp only [Act.put, List.setIfInBounds_toArray, List.set_cons_zero, List.set_cons_succ, i64_w, i32_w]
          rfl
         refine pure_ (i := 21) (N := some 65) (v := undef) (a' := ?_) #[true, true, true, true, true, true, true, true, true, true, true, true, true, true, true, true, true, true, true, true, true, true, false, false, false, false, false] rfl rfl (by kernel_rfl) (fun _ _ _ h => h) (Or.inr ⟨by rfl, rfl⟩) ?_ ?_
         rotate_left
         ·simp only [Act.put, List.setIfInBounds_toArray, List.set_cons_zero, List.set_cons_succ, i64_w, i32_w]
          rfl
         refine pure_ (i := 22) (N := some 66) (v := undef) (a' := ?_) #[true, true, true, true, true, true, true, true, true, true, true, true, true, true, true, true, true, true, true, true, true, true, true, false, false, false, false] rfl rfl (by kernel_rfl) (fun _ _ _ h => h) (Or.inr ⟨by rfl, rfl⟩) ?_ ?_
         rotate_left
         ·simp only [Act.put, List.setIfInBounds_toArray, List.set_cons_zero, List.set_cons_succ, i64_w, i32_w]
          rfl
         refine pure_ (i := 23) (N := some 67) (v := undef) (a' := ?_) #[true, true, true, true, true, true, true, true, true, true, true, true, true, true, true, true, true, true, true, true, true, true, true, true, false, false, false] rfl rfl (by kernel_rfl) (fun _ _ _ h => h) (Or.inr ⟨by rfl, rfl⟩) ?_ ?_
         rotate_left
         ·simp only [Act.put, List.setIfInBounds_toArray, List.set_cons_zero, List.set_cons_succ, i64_w, i32_w]
          rfl
         refine pure_ (i := 24) (N := some 68) (v := undef) (a' := ?_) #[true, true, true, true, true, true, true, true, true, true, true, true, true, true, true, true, true, true, true, true, true, true, true, true, true, false, false] rfl rfl (by kernel_rfl) (fun _ _ _ h => h) (Or.inr ⟨by rfl, rfl⟩) ?_ ?_
         rotate_left
         ·simp only [Act.put, List.setIfInBounds_toArray, List.set_cons_zero, List.set_cons_succ, i64_w, i32_w]
          rfl
         refine pure_ (i := 25) (N := some 69) (v := ?_) (a' := ?_) #[true, true, true, true, true, true, true, true, true, true, true, true, true, true, true, true, true, true, true, true, true, true, true, true, true, true, false] rfl rfl (by kernel_rfl) (fun _ _ _ h => h) (Or.inl ⟨by rfl, ?_⟩) ?_ ?_
         rotate_left
         ·intro w'
          go_simp
          with_reducible rfl
         rotate_left
         ·simp only [Act.put, List.setIfInBounds_toArray, List.set_cons_zero, List.set_cons_succ, i64_w, i32_w]
          rfl
         refine pure_ (i := 26) (N := some 70) (v := ?_) (a' := ?_) #[true, true, true, true, true, true, true, true, true, true, true, true, true, true, true, true, true, true, true, true, true, true, true, true, true, true, true] rfl rfl (by kernel_rfl) (fun _ _ _ h => h) (Or.inl ⟨by rfl, ?_⟩) ?_ ?_
         rotate_left
         ·intro w'
          go_simp
          with_reducible rfl
         rotate_left
         ·simp only [Act.put, List.setIfInBounds_toArray, List.set_cons_zero, List.set_cons_succ, i64_w, i32_w]
          rfl
         refine done_ (by kernel_rfl) ?_
         clear hHeld
         go_wp2
         have hx := HX.out
         have hl := LT.out
         go_roundw
         case rel => exact ⟨i + 1, by rw [EW.out], ⟨by omega⟩, ⟨below_step BW.out (show Below w5.heap.size w5 w5.drew from below_drew1 (Below.refl _ _))⟩, HR2⟩
         case measure =>
          simp [EW.out, intOf]
          omega
        | true =>
         rw [if_pos (beq_iff_eq.1 hkb)] at hR
         have HR1 := Aside0.mk hR
         clear hR hkb
         refine pure_ (i := 19) (N := some 63) (v := ?_) (a' := ?_) #[true, true, true, true, true, true, true, true, true, true, true, true, true, true, true, true, true, true, true, true, false, false, false, false, false, false, false] rfl rfl (by kernel_rfl) (fun _ _ _ h => h) (Or.inl ⟨by rfl, ?_⟩) ?_ ?_
         rotate_left
         ·intro w'
          go_simp
          with_reducible rfl
         rotate_left
         ·simp only [Act.put, List.setIfInBounds_toArray, List.set_cons_zero, List.set_cons_succ, i64_w, i32_w]
          rfl
         refine pure_ (i := 20) (N := some 64) (v := ?_) (a' := ?_) #[true, true, true, true, true, true, true, true, true, true, true, true, true, true, true, true, true, true, true, true, true, false, false, false, false, false, false] rfl rfl (by kernel_rfl) (fun _ _ _ h => h) (Or.inl ⟨by rfl, ?_⟩) ?_ ?_
         rotate_left
         ·intro w'
          go_simp
          with_reducible rfl
         rotate_left
         ·simp only [Act.put, List.setIfInBounds_toArray, List.set_cons_zero, List.set_cons_succ, i64_w, i32_w]
          rfl
         refine pure_ (i := 21) (N := some 65) (v := ?_) (a' := ?_) #[true, true, true, true, true, true, true, true, true, true, true, true, true, true, true, true, true, true, true, true, true, true, false, false, false, false, false] rfl rfl (by kernel_rfl) (fun _ _ _ h => h) (Or.inl ⟨by rfl, ?_⟩) ?_ ?_
         rotate_left
         ·intro w'
          go_simp
          with_reducible rfl
         rotate_left
         ·simp only [Act.put, List.setIfInBounds_toArray, List.set_cons_zero, List.set_cons_succ, i64_w, i32_w]
          rfl
         refine take_ (i := 22) (N := some 66) (v := ?_) (a' := ?_) #[true, true, true, true, true, true, true, true, true, true, true, true, true, true, true, true, true, true, true, true, true, true, true, false, false, false, false] rfl rfl (by kernel_rfl) (fun _ _ _ h => h) (Or.inl ⟨by rfl, ?_⟩) hHeld ?_ ?_
         rotate_left
         ·rintro w' ⟨s0, s1, s2, s3, s4⟩
          go_simp
          with_reducible rfl
         rotate_left
         ·simp only [Act.put, List.setIfInBounds_toArray, List.set_cons_zero, List.set_cons_succ, i64_w, i32_w]
          rfl
         refine one_ (i := 23) (N := some 67) #[true, true, true, true, true, true, true, true, true, true, true, true, true, true, true, true, true, true, true, true, true, true, true, true, false, false, false] rfl rfl (by kernel_rfl) (by decide) (fun K hK => ?_)
         refine goes_ Tryz.func83 (by kernel_rfl) rfl #[.pointer (some ⟨g, 0, none⟩), .int .u32 x.f1] (by rfl) rfl rfl (by (try simp only [List.map_toArray, List.map_cons, List.map_nil]); first | done | rfl) ?_
         refine (rooted_calls g w.heap.size (.slice A l.length c) d m sm false s x.f1 _ (V5.out.below (show Below w5.heap.size w5 w5.drew from below_drew1 (Below.refl _ _))) HXR.out).mono ?_
         rintro e w6 ⟨rfl, hb6⟩
         have B6 := Aside0.mk (show Below w5.heap.size w5 w6 from below_then (show Below w5.heap.size w5 w5.drew from below_drew1 (Below.refl _ _)) (show Below w5.heap.size w5 w5.drew from below_drew1 (Below.refl _ _)).size hb6)
         clear hb6
         refine ⟨_, rfl, ?_⟩
         refine hK.out _ _ ⟨(blk_cell (blk_below G5.out B6.out) 7).trans rfl, (blk_cell (blk_below X5.out B6.out) 1).trans rfl, (blk_cell (blk_below Z5.out B6.out) 2).trans rfl, (blk_cell (blk_below Z5.out B6.out) 0).trans rfl, (lookW (U5.out.below B6.out) HXR.out HY.out)⟩ (fun hHeld => ?_)
         clear hK K
         refine norm_ (a' := ?_) ?_ ?_
         rotate_left
         ·show Act.put _ (some 67) _ = _
          simp only [Act.put, List.setIfInBounds_toArray, List.set_cons_zero, List.set_cons_succ, i64_w, i32_w]
          rfl
         generalize hrb : rootedL s.up s.all.length x.f1 = rb
         rw [hrb] at HR1
         cases rb with
         | true =>
          have HR2 := Aside0.mk (show lookAll s (s.all.drop (i + 1).toNat) = lookAll s s.all by have := HR1.out; rw [if_pos rfl] at this; exact this)
          clear HR1 hrb
          refine pure_ (i := 24) (N := some 68) (v := ?_) (a' := ?_) #[true, true, true, true, true, true, true, true, true, true, true, true, true, true, true, true, true, true, true, true, true, true, true, true, true, false, false] rfl rfl (by kernel_rfl) (fun _ _ _ h => h) (Or.inl ⟨by rfl, ?_⟩) ?_ ?_
          rotate_left
          ·intro w'
           go_simp
           with_reducible rfl
          rotate_left
          ·simp only [Act.put, List.setIfInBounds_toArray, List.set_cons_zero, List.set_cons_succ, i64_w, i32_w]
           rfl
          refine pure_ (i := 25) (N := some 69) (v := ?_) (a' := ?_) #[true, true, true, true, true, true, true, true, true, true, true, true, true, true, true, true, true, true, true, true, true, true, true, true, true, true, false] rfl rfl (by kernel_rfl) (fun _ _ _ h => h) (Or.inl ⟨by rfl, ?_⟩) ?_ ?_
          rotate_left
          ·intro w'
           go_simp
           with_reducible rfl
          rotate_left
          ·simp only [Act.put, List.setIfInBounds_toArray, List.set_cons_zero, List.set_cons_succ, i64_w, i32_w]
           rfl
          refine pure_ (i := 26) (N := some 70) (v := ?_) (a' := ?_) #[true, true, true, true, true, true, true, true, true, true, true, true, true, true, true, true, true, true, true, true, true, true, true, true, true, true, true] rfl rfl (by kernel_rfl) (fun _ _ _ h => h) (Or.inl ⟨by rfl, ?_⟩) ?_ ?_
          rotate_left
          ·intro w'
           go_simp
           with_reducible rfl
          rotate_left
          ·simp only [Act.put, List.setIfInBounds_toArray, List.set_cons_zero, List.set_cons_succ, i64_w, i32_w]
           rfl
          refine done_ (by kernel_rfl) ?_
          clear hHeld
          go_wp2
          have hx := HX.out
          have hl := LT.out
          go_roundw
          case rel => exact ⟨i + 1, by rw [EW.out], ⟨by omega⟩, ⟨below_step BW.out B6.out⟩, HR2⟩
          case measure =>
           simp [EW.out, intOf]
           omega
         | false =>
          have hq := HLO.out
          have h1 := HR1.out
          rw [if_neg (by decide)] at h1
          rw [← h1, if_neg (by decide)] at hq
          clear h1
          obtain rfl := hq
          clear HR1 hrb
          refine pure_ (i := 24) (N := some 68) (v := ?_) (a' := ?_) #[true, true, true, true, true, true, true, true, true, true, true, true, true, true, true, true, true, true, true, true, true, true, true, true, true, false, false] rfl rfl (by kernel_rfl) (fun _ _ _ h => h) (Or.inl ⟨by rfl, ?_⟩) ?_ ?_
          rotate_left
          ·intro w'
           go_simp
           with_reducible rfl
          rotate_left
          ·simp only [Act.put, List.setIfInBounds_toArray, List.set_cons_zero, List.set_cons_succ, i64_w, i32_w]
           rfl
          refine pure_ (i := 25) (N := some 69) (v := ?_) (a' := ?_) #[true, true, true, true, true, true, true, true, true, true, true, true, true, true, true, true, true, true, true, true, true, true, true, true, true, true, false] rfl rfl (by kernel_rfl) (fun _ _ _ h => h) (Or.inl ⟨by rfl, ?_⟩) ?_ ?_
          rotate_left
          ·intro w'
           go_simp
           with_reducible rfl
          rotate_left
          ·simp only [Act.put, List.setIfInBounds_toArray, List.set_cons_zero, List.set_cons_succ, i64_w, i32_w]
           rfl
          refine pure_ (i := 26) (N := some 70) (v := ?_) (a' := ?_) #[true, true, true, true, true, true, true, true, true, true, true, true, true, true, true, true, true, true, true, true, true, true, true, true, true, true, true] rfl rfl (by kernel_rfl) (fun _ _ _ h => h) (Or.inl ⟨by rfl, ?_⟩) ?_ ?_
          rotate_left
          ·intro w'
           go_simp
           with_reducible rfl
          rotate_left
          ·simp only [Act.put, List.setIfInBounds_toArray, List.set_cons_zero, List.set_cons_succ, i64_w, i32_w]
           rfl
          refine done_ (by kernel_rfl) ?_
          clear hHeld
          go_wp2
          refine bodyPost_ret (results_none rfl _ _ _) rfl ?_
          obtain ⟨va9, bi9, bu9, hG9, _⟩ := V5.out.below B6.out
          exact ⟨rfl, ((F1.out.below B2.out).below BW.out).below B6.out, (fun s hs => by cases hs), va9, _, _, hG9⟩
     ·have e0 : (x.f0 != 1) = true := bne_iff_ne.2 hk
      have HR2 := Aside0.mk (show lookAll s (s.all.drop (i + 1).toNat) = lookAll s s.all by have := HR0.out; rw [if_neg (fun h => hk h.1)] at this; exact this)
      clear HR0 hk
      go_wp2_with (first | ((with_reducible refine gate_dst (N := 3) rfl ?_); refine var_event (N := 3) (T := 168) (n := 5) (zc := #[.int .u8 0, .int .u32 0, .string ⟨#[]⟩, .int .u32 0, .string ⟨#[]⟩]) (cs := #[.int .u8 x.f0, .int .u32 x.f1, .string x.f2, .int .u32 x.f3, .string x.f4]) rfl rfl rfl (.tmp 25) rfl rfl ?hr (by kernel_rfl) rfl rfl rfl ?hx ?hN ?_; (case hx => intro p_; rfl); (case hN => intro p_; rfl); (case hr => first | (go_simp; done) | (go_simp; rfl)); intro gx hgx w3 hx3 hb3; have X3 := Aside0.mk hx3; have B3 := Aside0.mk (below_step HBW.out hb3); have y0 : w3.cell? ⟨gx, 0, none⟩ = some (.int .u8 x.f0) := (blk_cell X3.out 0).trans rfl; have y1 : w3.cell? ⟨gx, 1, none⟩ = some (.int .u32 x.f1) := (blk_cell X3.out 1).trans rfl; clear hx3 hb3 hgx q0 q1 q2 q3 q4))
      have hx := HX.out
      have hl := LT.out
      go_roundw
      case rel => exact ⟨i + 1, by rw [EW.out], ⟨by omega⟩, ⟨B3.out⟩, HR2⟩
      case measure =>
       simp [EW.out, intOf]
       omega
    ·have hge : decide (i < (s.all.length : Int)) = false := decide_eq_false hlt
     have hR := HRL.out
     rw [List.drop_eq_nil_of_le (by omega), lookAll] at hR
     have hq := HLO.out
     rw [← hR, if_pos rfl] at hq
     obtain rfl := hq
     have G9 := Aside0.mk (blk_below G2.out HBW.out)
     have V9 := Aside0.mk (V2.out.below HBW.out)
     have c4 : wr.cell? ⟨g, 4, none⟩ = some (.bool false) := (blk_cell G9.out 4).trans rfl
     have f4 : wr.frozen? ⟨g, 4, none⟩ = false := blk_frozen G9.out 4
     clear hR hlt hi0 hi1
     go_wp2
     go_end0
     have hv := V9.out.setR
     obtain ⟨va9, bi9, bu9, hG9, _⟩ := id hv
     exact ⟨rfl, ((F1.out.below B2.out).below HBW.out).setg 4 _, (fun s' hs => by obtain rfl := Option.some.inj hs; exact hv), va9, _, _, hG9⟩
end Go.Proofs.YthbljhmjppjcjaaGreatDoor.Z
end
