/- This session's own texts, laid together (a part that several claims share). -/
import Derived.Test.YtpnmajblhgnkoaaGreatMB1
import Derived.Test.YtpnmajblhgnkoaaGreatProg
import Derived.Laws.Strings
import Derived.Lib.AppendZeros
import Derived.LoopTactic
import Derived.Lib.IndexLaws
open Go.RowKit Go.Proofs.YtpnmajblhgnkoaaGreatW.PrintWords Go.Proofs.YtpnmajblhgnkoaaGreatW.PrintLast Go.Proofs.YtpnmajblhgnkoaaGreatW.PrintMore
set_option linter.unusedVariables false
set_option linter.unusedSimpArgs false
section
namespace Go.Proofs.YtpnmajblhgnkoaaGreat.Z
attribute [local go_sem] max2_int min2_int max_two min_two max_three min_three max_four min_four   -- for this text's walks alone
def pack_TakeText.j0 : Nat → Int → ByteArray → Int → Bool → Option (ByteArray × ByteArray × Int)
 | 0, _, _, _, _ => none
 | k + 1, x5, x6, x7, x22 => if x22 = true then (some ((⟨#[]⟩ : ByteArray), (⟨#[]⟩ : ByteArray), 3)) else (if x7 = 0 then (if 0 ≤ x5 then (if x5 ≤ (x6.size : Int) then (some (x6.extract 0 (x5 : Int).toNat, x6.extract (x5 : Int).toNat x6.size, 0)) else (none)) else (none)) else (some ((⟨#[]⟩ : ByteArray), (⟨#[]⟩ : ByteArray), x7)))
def pack_TakeText.f (k : Nat) (a0 : ByteArray) : Option (ByteArray × ByteArray × Int) := (pack_TakeNumber.f k a0 2).bind fun bt181 => (if bt181.2.2 = 0 then (pack_TakeText.j0 k bt181.1 bt181.2.1 bt181.2.2 (decide (bt181.1 > (IntKind.u64.wrap ((bt181.2.1.size : Int)))))) else (pack_TakeText.j0 k bt181.1 bt181.2.1 bt181.2.2 false))
theorem pack_TakeText.mono_l : ∀ k, (∀ y0 y1 y2 y3, LeO (pack_TakeText.j0 k y0 y1 y2 y3) (pack_TakeText.j0 (k + 1) y0 y1 y2 y3))
 | 0 => by intros; intro r h; simp [pack_TakeText.j0] at h
 | k + 1 => by
  have ih0 := pack_TakeText.mono_l k
  intros
  unfold pack_TakeText.j0
  repeat' (first | (with_reducible first | exact ih0 _ _ _ _ | exact pack_TakeNumber.mono _ _ _ | exact LeO.refl _ | exact LeO.none _ | refine LeO.ite ?_ ?_ | refine LeO.bind ?_ (fun _ => ?_)))
theorem pack_TakeText.mono : ∀ a0 k, LeO (pack_TakeText.f k a0) (pack_TakeText.f (k + 1) a0) := by
 intro a0 k
 have ih0 := pack_TakeText.mono_l k
 unfold pack_TakeText.f
 repeat' (first | (with_reducible first | exact ih0 _ _ _ _ | exact pack_TakeNumber.mono _ _ _ | exact LeO.refl _ | exact LeO.none _ | refine LeO.ite ?_ ?_ | refine LeO.bind ?_ (fun _ => ?_)))
set_option maxHeartbeats 8000000 in
set_option maxRecDepth 100000 in
theorem pack_TakeText.calls (k : Nat) (a0 : ByteArray) (r1 : ByteArray) (r2 : ByteArray) (r3 : Int) (w : World) (h : pack_TakeText.f k a0 = some (r1, r2, r3)) :
  Calls Tryz.prog 109 #[.string a0] w fun e w' => e = .returned (.tuple #[.string r1, .string r2, .int .i64 r3]) ∧ Drawn0 w w' := by
 have H : ((pack_TakeNumber.f k a0 2).bind fun bt181 => (if bt181.2.2 = 0 then (pack_TakeText.j0 k bt181.1 bt181.2.1 bt181.2.2 (decide (bt181.1 > (IntKind.u64.wrap ((bt181.2.1.size : Int)))))) else (pack_TakeText.j0 k bt181.1 bt181.2.1 bt181.2.2 false))) = some (r1, r2, r3) := h
 clear h
 replace H := Option.bind_eq_some_iff.mp H
 obtain ⟨⟨t181, t182, t183⟩, A20, H⟩ := H
 try dsimp only at H
 have A2 := ak_ A20
 clear A20
 have HC3 := ak_ H
 clear H
 go_enter Tryz.func109, Tryz.ntmps109
 go_upto_region 2 with (first | (go_at_call 69; (with_reducible refine (pack_TakeNumber.calls k a0 2 t181 t182 t183 _ A2.out).mono ?_); rintro e w' ⟨rfl, ⟨nd, rfl⟩⟩; (try first | exact ⟨rfl, _, World.drewN_drewN _ _ _⟩ | exact ⟨rfl, _, Eq.trans (World.drewN_drewN _ _ _) (congrArg (World.drewN _) (Nat.add_assoc _ _ _))⟩)))
 repeat (go_quiet (first | (go_at_call 69; (with_reducible refine (pack_TakeNumber.calls k a0 2 t181 t182 t183 _ A2.out).mono ?_); rintro e w' ⟨rfl, ⟨nd, rfl⟩⟩; (try first | exact ⟨rfl, _, World.drewN_drewN _ _ _⟩ | exact ⟨rfl, _, Eq.trans (World.drewN_drewN _ _ _) (congrArg (World.drewN _) (Nat.add_assoc _ _ _))⟩))); go_upto_region 2 with (first | (go_at_call 69; (with_reducible refine (pack_TakeNumber.calls k a0 2 t181 t182 t183 _ A2.out).mono ?_); rintro e w' ⟨rfl, ⟨nd, rfl⟩⟩; (try first | exact ⟨rfl, _, World.drewN_drewN _ _ _⟩ | exact ⟨rfl, _, Eq.trans (World.drewN_drewN _ _ _) (congrArg (World.drewN _) (Nat.add_assoc _ _ _))⟩))))
 (try simp only [Act.put, List.setIfInBounds_toArray, List.set_cons_zero, List.set_cons_succ])
 go_cut [22] (fun v22 wc => ∃ (kq : Nat) (x22_2 : Bool), v22 = .bool x22_2 ∧ Aside0 (pack_TakeText.j0 kq t181 t182 t183 x22_2 = some (r1, r2, r3)) ∧ Aside0 (kq ≤ k) ∧ Drawn0 w wc)
 case first =>
  have H := HC3.out
  clear HC3
  by_cases c4 : t183 = 0
  ·rw [if_pos c4] at H
   have c4b0 : (t183 == 0) = true := beq_iff_eq.mpr c4
   have c4b1 : (t183 != 0) = false := bne_eq_false_iff_eq.mpr c4
   clear c4
   (first | rw [c4b0] | (simp only [i64_w, i32_w]; rw [c4b0]) | skip)
   have H' := ak_ H
   clear H
   go_wp2
   repeat (go_quiet (fail); try go_wp2)
   go_meet
   case rel => exact ⟨_, (decide (t181 > (IntKind.u64.wrap ((t182.size : Int))))), (by first | rfl | (simp; done) | (simp [*]; done)), H', ⟨by first | omega | exact Nat.le_refl _⟩, by repeat (first | exact Drawn0.refl _ | apply Drawn0.step)⟩
  rw [if_neg c4] at H
  have c4b0 : (t183 == 0) = false := beq_eq_false_iff_ne.mpr c4
  have c4b1 : (t183 != 0) = true := bne_iff_ne.mpr c4
  (first | rw [c4b0] | (simp only [i64_w, i32_w]; rw [c4b0]) | skip)
  have H' := ak_ H
  clear H
  go_wp2
  repeat (go_quiet (fail); try go_wp2)
  go_meet
  case rel => exact ⟨_, (false), (by first | rfl | (simp; done) | (simp [*]; done)), H', ⟨by first | omega | exact Nat.le_refl _⟩, by repeat (first | exact Drawn0.refl _ | apply Drawn0.step)⟩
 case rest =>
  clear HC3
  try clear c1
  try clear p2
  try clear c4
  try clear c4b0
  try clear c4b1
  obtain ⟨kq, x22_2, rfl, HA, HJ2, ⟨mc2, rfl⟩⟩ := hcut
  cases kq with
  | zero => exact absurd HA.out (by simp [pack_TakeText.j0])
  | succ kj2 =>
   have H := HA.out
   clear HA
   simp only [pack_TakeText.j0] at H
   by_cases c5 : x22_2 = true
   ·subst c5
    rw [if_pos rfl] at H
    simp only [Option.some.injEq, Prod.mk.injEq] at H
    obtain ⟨rfl, rfl, rfl⟩ := H
    go_wp2
    repeat (go_quiet (fail); try go_wp2)
    go_ret3
    exact ⟨by first | rfl | (simp; done) | (simp [*]; done), by repeat (first | exact Drawn0.refl _ | apply Drawn0.step)⟩
   replace c5 := Bool.eq_false_iff.mpr c5
   subst c5
   rw [if_neg (show ¬ (false = true) by decide)] at H
   by_cases c6 : t183 = 0
   ·rw [if_pos c6] at H
    have c6b0 : (t183 == 0) = true := beq_iff_eq.mpr c6
    have c6b1 : (t183 != 0) = false := bne_eq_false_iff_eq.mpr c6
    clear c6
    by_cases c7 : 0 ≤ t181
    ·rw [if_pos c7] at H
     have c7b0 := eq_true c7
     have c7b1 : decide (0 ≤ t181) = true := decide_eq_true c7
     clear c7
     by_cases c8 : t181 ≤ (t182.size : Int)
     ·rw [if_pos c8] at H
      have c8b0 := eq_true c8
      have c8b1 : decide (t181 ≤ (t182.size : Int)) = true := decide_eq_true c8
      clear c8
      have c9b0 := eq_true (of_decide_eq_true (by first | (with_reducible assumption) | assumption) : 0 ≤ t181)
      have c10b0 := eq_true (of_decide_eq_true (by first | (with_reducible assumption) | assumption) : t181 ≤ (t182.size : Int))
      simp only [Option.some.injEq, Prod.mk.injEq] at H
      obtain ⟨rfl, rfl, rfl⟩ := H
      go_wp2
      repeat (go_quiet (fail); try go_wp2)
      go_ret3
      exact ⟨by first | rfl | (simp; done) | (simp [*]; done), by repeat (first | exact Drawn0.refl _ | apply Drawn0.step)⟩
     rw [if_neg c8] at H
     exact absurd H (by simp)
    rw [if_neg c7] at H
    exact absurd H (by simp)
   rw [if_neg c6] at H
   have c6b0 : (t183 == 0) = false := beq_eq_false_iff_ne.mpr c6
   have c6b1 : (t183 != 0) = true := bne_iff_ne.mpr c6
   simp only [Option.some.injEq, Prod.mk.injEq] at H
   obtain ⟨rfl, rfl, rfl⟩ := H
   go_wp2
   repeat (go_quiet (fail); try go_wp2)
   go_ret3
   exact ⟨by first | rfl | (simp; done) | (simp [*]; done), by repeat (first | exact Drawn0.refl _ | apply Drawn0.step)⟩
def inode_taker_text.f (k : Nat) (s0_0 : ByteArray) (s0_1 : Bool) : Option (ByteArray × ByteArray × Bool) := (pack_TakeText.f k s0_0).bind fun bt184 => (if s0_1 = true then (some (bt184.1, bt184.2.1, true)) else (some (bt184.1, bt184.2.1, (bt184.2.2 != 0))))
theorem inode_taker_text.mono : ∀ a0 a1 k, LeO (inode_taker_text.f k a0 a1) (inode_taker_text.f (k + 1) a0 a1) := by
 intro a0 a1 k
 unfold inode_taker_text.f
 repeat' (first | (with_reducible first | exact pack_TakeText.mono _ _ | exact LeO.refl _ | exact LeO.none _ | refine LeO.ite ?_ ?_ | refine LeO.bind ?_ (fun _ => ?_)))
set_option maxHeartbeats 64000000 in
set_option maxRecDepth 100000 in
theorem inode_taker_text.calls (k : Nat) (g : Nat) (s0_0 : ByteArray) (s0_1 : Bool) (r1 : ByteArray) (r2 : ByteArray) (r3 : Bool) (w0 w : World) (hI : IsS142 w0 w g s0_0 s0_1) (hB : Below w0.heap.size w0 w) (h : inode_taker_text.f k s0_0 s0_1 = some (r1, r2, r3)) :
  Calls Tryz.prog 94 #[.pointer (some ⟨g, 0, none⟩)] w fun e w' => e = .returned (.string r1) ∧ IsS142 w0 w' g r2 r3 ∧ Below w0.heap.size w0 w' ∧ KeepBut w w' g none := by
 have HI0 := ak_ hI
 have HK := ak_ (KeepBut.refl w g none)
 have HL := ak_ hB.size
 clear hI
 have HW0 := ak_ hB.size
 have HB := ak_ hB
 clear hB
 have H : ((pack_TakeText.f k s0_0).bind fun bt184 => (if s0_1 = true then (some (bt184.1, bt184.2.1, true)) else (some (bt184.1, bt184.2.1, (bt184.2.2 != 0))))) = some (r1, r2, r3) := h
 clear h
 replace H := Option.bind_eq_some_iff.mp H
 obtain ⟨⟨t184, t185, t186⟩, A20, H⟩ := H
 try dsimp only at H
 have A2 := ak_ A20
 clear A20
 refine Or.elim (Classical.em (s0_1 = true)) (fun c3 => ?p1_) (fun c3 => ?n1_)
 case' p1_ =>
  subst c3
  rw [if_pos rfl] at H
  simp only [Option.some.injEq, Prod.mk.injEq] at H
  obtain ⟨rfl, rfl, rfl⟩ := H
  obtain ⟨HGz4, hgz4⟩ := HI0.out
  have hcz4_0 := cellS142_0 HGz4
  have hcz4_1 := cellS142_1 HGz4
  have hfz4_0 := blk_frozen HGz4 0
  have hfz4_1 := blk_frozen HGz4 1
  clear HGz4 hgz4
  refine ?z1_
 case' n1_ =>
  replace c3 := Bool.eq_false_iff.mpr c3
  subst c3
  rw [if_neg (show ¬ (false = true) by decide)] at H
  simp only [Option.some.injEq, Prod.mk.injEq] at H
  obtain ⟨rfl, rfl, rfl⟩ := H
  obtain ⟨HGz5, hgz5⟩ := HI0.out
  have hcz5_0 := cellS142_0 HGz5
  have hcz5_1 := cellS142_1 HGz5
  have hfz5_0 := blk_frozen HGz5 0
  have hfz5_1 := blk_frozen HGz5 1
  clear HGz5 hgz5
  refine ?z2_
 case p1_ | n1_ =>
  go_enter Tryz.func94, Tryz.ntmps94
  go_wp2_with (first | ((with_reducible refine gate_callee (f := 109) rfl ?_); refine gl_ (some 11) Tryz.func109 #[.string s0_0] ?_; (with_reducible refine (pack_TakeText.calls k s0_0 t184 t185 t186 _ A2.out).mono ?_); rintro e w' ⟨rfl, ⟨nd, rfl⟩⟩; refine ⟨_, rfl, ?_⟩))
  go_ret
  exact ⟨by first | rfl | (simp [errW_none, errW_some] <;> rfl) | (simp [*, errW_none, errW_some] <;> rfl), by repeat (first | (with_reducible first | exact HI0.out | apply IsS142.alloc | apply IsS142.drewN | apply IsS142.drew | apply IsS142.set_0 | apply IsS142.set_1) | exact HI0.out), by repeat (first | (with_reducible first | exact HB.out | apply below_alloc | apply pw_below_drewN | apply below_drew1 | refine below_set ?_ (IsS142.ge HI0.out)) | exact HB.out), by repeat (first | (with_reducible first | exact HK.out | apply KeepBut.set_ | apply keep_drewN | apply keep_drew | apply keep_alloc) | exact HK.out)⟩
def inode_Decode.f (k : Nat) (a0 : ByteArray) : Option (Int × Int × Int × Int × ByteArray × Int) := (inode_taker_number.f k a0 false 1).bind fun bt189 => ((inode_taker_number.f k bt189.2.1 bt189.2.2 2).bind fun bt192 => ((inode_taker_number.f k bt192.2.1 bt192.2.2 4).bind fun bt195 => ((inode_taker_number.f k bt195.2.1 bt195.2.2 4).bind fun bt198 => ((inode_taker_text.f k bt198.2.1 bt198.2.2).bind fun bt201 => (if bt201.2.2 = true then (some (0, 0, 0, 0, (⟨#[]⟩ : ByteArray), 4)) else (if bt201.2.1.toList = ([] : List UInt8) then ((inode_Check.f ((bt189.1) % 256) (IntKind.u16.wrap (bt192.1)) ((bt195.1) % 4294967296) ((bt198.1) % 4294967296) bt201.1).bind fun t205 => (if t205 = 0 then (some ((bt189.1) % 256, IntKind.u16.wrap (bt192.1), (bt195.1) % 4294967296, (bt198.1) % 4294967296, bt201.1, 0)) else (some (0, 0, 0, 0, (⟨#[]⟩ : ByteArray), 4)))) else (some (0, 0, 0, 0, (⟨#[]⟩ : ByteArray), 4))))))))
theorem inode_Decode.mono : ∀ a0 k, LeO (inode_Decode.f k a0) (inode_Decode.f (k + 1) a0) := by
 intro a0 k
 unfold inode_Decode.f
 repeat' (first | (with_reducible first | exact inode_taker_number.mono _ _ _ _ | exact inode_taker_text.mono _ _ _ | exact LeO.refl _ | exact LeO.none _ | refine LeO.ite ?_ ?_ | refine LeO.bind ?_ (fun _ => ?_)))
set_option maxHeartbeats 8000000 in
set_option maxRecDepth 100000 in
theorem inode_Decode.calls (k : Nat) (a0 : ByteArray) (r1 : Int) (r2 : Int) (r3 : Int) (r4 : Int) (r5 : ByteArray) (r6 : Int) (w : World) (h : inode_Decode.f k a0 = some (r1, r2, r3, r4, r5, r6)) :
  Calls Tryz.prog 79 #[.string a0] w fun e w' => e = .returned (.tuple #[.agg #[.int .u8 r1, .int .u16 r2, .int .u32 r3, .int .u32 r4, .string r5], .int .i64 r6]) ∧ Below w.heap.size w w' := by
 have hu31 := Tryz.underlying31
 have hu142 := Tryz.underlying142
 have HB := ak_ (Below.refl w.heap.size w)
 have H : ((inode_taker_number.f k a0 false 1).bind fun bt189 => ((inode_taker_number.f k bt189.2.1 bt189.2.2 2).bind fun bt192 => ((inode_taker_number.f k bt192.2.1 bt192.2.2 4).bind fun bt195 => ((inode_taker_number.f k bt195.2.1 bt195.2.2 4).bind fun bt198 => ((inode_taker_text.f k bt198.2.1 bt198.2.2).bind fun bt201 => (if bt201.2.2 = true then (some (0, 0, 0, 0, (⟨#[]⟩ : ByteArray), 4)) else (if bt201.2.1.toList = ([] : List UInt8) then ((inode_Check.f ((bt189.1) % 256) (IntKind.u16.wrap (bt192.1)) ((bt195.1) % 4294967296) ((bt198.1) % 4294967296) bt201.1).bind fun t205 => (if t205 = 0 then (some ((bt189.1) % 256, IntKind.u16.wrap (bt192.1), (bt195.1) % 4294967296, (bt198.1) % 4294967296, bt201.1, 0)) else (some (0, 0, 0, 0, (⟨#[]⟩ : ByteArray), 4)))) else (some (0, 0, 0, 0, (⟨#[]⟩ : ByteArray), 4))))))))) = some (r1, r2, r3, r4, r5, r6) := h
 clear h
 replace H := Option.bind_eq_some_iff.mp H
 obtain ⟨⟨t189, t190, t191⟩, A20, H⟩ := H
 try dsimp only at H
 have A2 := ak_ A20
 clear A20
 replace H := Option.bind_eq_some_iff.mp H
 obtain ⟨⟨t192, t193, t194⟩, A30, H⟩ := H
 try dsimp only at H
 have A3 := ak_ A30
 clear A30
 replace H := Option.bind_eq_some_iff.mp H
 obtain ⟨⟨t195, t196, t197⟩, A40, H⟩ := H
 try dsimp only at H
 have A4 := ak_ A40
 clear A40
 replace H := Option.bind_eq_some_iff.mp H
 obtain ⟨⟨t198, t199, t200⟩, A50, H⟩ := H
 try dsimp only at H
 have A5 := ak_ A50
 clear A50
 replace H := Option.bind_eq_some_iff.mp H
 obtain ⟨⟨t201, t202, t203⟩, A60, H⟩ := H
 try dsimp only at H
 have A6 := ak_ A60
 clear A60
 by_cases c7 : t203 = true
 ·subst c7
  rw [if_pos rfl] at H
  simp only [Option.some.injEq, Prod.mk.injEq] at H
  obtain ⟨rfl, rfl, rfl, rfl, rfl, rfl⟩ := H
  go_enter Tryz.func79, Tryz.ntmps79
  go_wp2_with (first | ((with_reducible refine gate_dst (N := 2) rfl ?_); refine bx_ (N := 2) (cs := #[.int .u8 0, .int .u16 0, .int .u32 0, .int .u32 0, .string (⟨#[]⟩ : ByteArray)]) (t := 31) ?_; intro gb187 hg w8 hbox hb; have BK187 := ak_ (hbox); have GW187 := ge_ hg; have GE187 := ge_ hg; replace HB := hb_ hb; clear hb hbox hg) | ((with_reducible refine gate_dst (N := 8) rfl ?_); refine bx_ (N := 8) (cs := #[.string a0, .bool false]) (t := 142) ?_; intro gb188 hg w9 hbox hb; have BK188 := ak_ (hbox); have GW188 := ge_ hg; have GE188 := ge_ hg; have NB187_188 := nl_ BK187 hg; have NB188_187 := ng_ BK187 hg; replace BK187 := kb_ BK187 hb; replace HB := hb_ hb; clear hb hbox hg) | ((with_reducible refine gate_callee (f := 93) rfl ?_); refine gl_ (some 10) Tryz.func93 #[.pointer (some ⟨gb188, 0, none⟩), .int .i64 1] ?_; (with_reducible refine (inode_taker_number.calls k gb188 a0 false 1 t189 t190 t191 w _ ?side1 ?side2 A2.out).mono ?_); (case side1 => exact ⟨(bk_ BK188), GE188.out⟩); (case side2 => repeat (first | (with_reducible first | exact HB.out | apply below_alloc | apply pw_below_drewN | apply below_drew1 | refine below_set ?_ GE187.out | refine below_set ?_ GE188.out) | exact HB.out)); rintro e w10 ⟨rfl, hi, hb, hk⟩; refine ⟨_, rfl, ?_⟩; replace BK187 := ak_ (KeepBut.blk hk (g' := gb187) (o := .cells #[.int .u8 0, .int .u16 0, .int .u32 0, .int .u32 0, .string (⟨#[]⟩ : ByteArray)] 31 (0, 0)) (bk_ BK187) NB187_188.out (by simp)); replace HB := ak_ (hb); replace BK188 := ak_ (hi.1); (try clear hb); (try clear hk); (try clear hi)) | ((with_reducible refine gate_callee (f := 93) rfl ?_); refine gl_ (some 13) Tryz.func93 #[.pointer (some ⟨gb188, 0, none⟩), .int .i64 2] ?_; (with_reducible refine (inode_taker_number.calls k gb188 t190 t191 2 t192 t193 t194 w _ ?side1 ?side2 A3.out).mono ?_); (case side1 => exact ⟨(bk_ BK188), GE188.out⟩); (case side2 => repeat (first | (with_reducible first | exact HB.out | apply below_alloc | apply pw_below_drewN | apply below_drew1 | refine below_set ?_ GE187.out | refine below_set ?_ GE188.out) | exact HB.out)); rintro e w11 ⟨rfl, hi, hb, hk⟩; refine ⟨_, rfl, ?_⟩; replace BK187 := ak_ (KeepBut.blk hk (g' := gb187) (o := .cells #[.int .u8 0, .int .u16 0, .int .u32 0, .int .u32 0, .string (⟨#[]⟩ : ByteArray)] 31 (0, 0)) (bk_ BK187) NB187_188.out (by simp)); replace HB := ak_ (hb); replace BK188 := ak_ (hi.1); (try clear hb); (try clear hk); (try clear hi)) | ((with_reducible refine gate_callee (f := 93) rfl ?_); refine gl_ (some 16) Tryz.func93 #[.pointer (some ⟨gb188, 0, none⟩), .int .i64 4] ?_; (with_reducible refine (inode_taker_number.calls k gb188 t193 t194 4 t195 t196 t197 w _ ?side1 ?side2 A4.out).mono ?_); (case side1 => exact ⟨(bk_ BK188), GE188.out⟩); (case side2 => repeat (first | (with_reducible first | exact HB.out | apply below_alloc | apply pw_below_drewN | apply below_drew1 | refine below_set ?_ GE187.out | refine below_set ?_ GE188.out) | exact HB.out)); rintro e w12 ⟨rfl, hi, hb, hk⟩; refine ⟨_, rfl, ?_⟩; replace BK187 := ak_ (KeepBut.blk hk (g' := gb187) (o := .cells #[.int .u8 0, .int .u16 0, .int .u32 0, .int .u32 0, .string (⟨#[]⟩ : ByteArray)] 31 (0, 0)) (bk_ BK187) NB187_188.out (by simp)); replace HB := ak_ (hb); replace BK188 := ak_ (hi.1); (try clear hb); (try clear hk); (try clear hi)) | ((with_reducible refine gate_callee (f := 93) rfl ?_); refine gl_ (some 19) Tryz.func93 #[.pointer (some ⟨gb188, 0, none⟩), .int .i64 4] ?_; (with_reducible refine (inode_taker_number.calls k gb188 t196 t197 4 t198 t199 t200 w _ ?side1 ?side2 A5.out).mono ?_); (case side1 => exact ⟨(bk_ BK188), GE188.out⟩); (case side2 => repeat (first | (with_reducible first | exact HB.out | apply below_alloc | apply pw_below_drewN | apply below_drew1 | refine below_set ?_ GE187.out | refine below_set ?_ GE188.out) | exact HB.out)); rintro e w13 ⟨rfl, hi, hb, hk⟩; refine ⟨_, rfl, ?_⟩; replace BK187 := ak_ (KeepBut.blk hk (g' := gb187) (o := .cells #[.int .u8 0, .int .u16 0, .int .u32 0, .int .u32 0, .string (⟨#[]⟩ : ByteArray)] 31 (0, 0)) (bk_ BK187) NB187_188.out (by simp)); replace HB := ak_ (hb); replace BK188 := ak_ (hi.1); (try clear hb); (try clear hk); (try clear hi)) | ((with_reducible refine gate_callee (f := 94) rfl ?_); refine gl_ (some 22) Tryz.func94 #[.pointer (some ⟨gb188, 0, none⟩)] ?_; (with_reducible refine (inode_taker_text.calls k gb188 t199 t200 t201 t202 true w _ ?side1 ?side2 A6.out).mono ?_); (case side1 => exact ⟨(bk_ BK188), GE188.out⟩); (case side2 => repeat (first | (with_reducible first | exact HB.out | apply below_alloc | apply pw_below_drewN | apply below_drew1 | refine below_set ?_ GE187.out | refine below_set ?_ GE188.out) | exact HB.out)); rintro e w14 ⟨rfl, hi, hb, hk⟩; refine ⟨_, rfl, ?_⟩; replace BK187 := ak_ (KeepBut.blk hk (g' := gb187) (o := .cells #[.int .u8 0, .int .u16 0, .int .u32 0, .int .u32 0, .string (⟨#[]⟩ : ByteArray)] 31 (0, 0)) (bk_ BK187) NB187_188.out (by simp)); replace HB := ak_ (hb); replace BK188 := ak_ (hi.1); (try clear hb); (try clear hk); (try clear hi)) | ((with_reducible refine gate_dst (N := 5) rfl ?_); refine bx_ (N := 5) (cs := #[.int .u8 0, .int .u16 0, .int .u32 0, .int .u32 0, .string (⟨#[]⟩ : ByteArray)]) (t := 31) ?_; intro gb204 hg w15 hbox hb; have BK204 := ak_ (hbox); have GW204 := ge_ hg; have GE204 := ge_ hg; have NB187_204 := nl_ BK187 hg; have NB204_187 := ng_ BK187 hg; have NB188_204 := nl_ BK188 hg; have NB204_188 := ng_ BK188 hg; replace BK187 := kb_ BK187 hb; replace BK188 := kb_ BK188 hb; replace HB := hb_ hb; clear hb hbox hg; have hnb16 := NB204_187.out; have hnc16 := NB187_204.out; have hnb17 := NB204_188.out; have hnc17 := NB188_204.out; obtain ⟨hcz18_0, hcz18_1, hcz18_2, hcz18_3, hcz18_4⟩ := cl5_ BK204; obtain ⟨hfz18_0, hfz18_1, hfz18_2, hfz18_3, hfz18_4⟩ := fz5_ BK204; have hnb19 := NB188_187.out; have hnc19 := NB187_188.out; obtain ⟨hcz20_0, hcz20_1⟩ := cl2_ BK188; obtain ⟨hfz20_0, hfz20_1⟩ := fz2_ BK188; obtain ⟨hcz21_0, hcz21_1, hcz21_2, hcz21_3, hcz21_4⟩ := cl5_ BK187; obtain ⟨hfz21_0, hfz21_1, hfz21_2, hfz21_3, hfz21_4⟩ := fz5_ BK187))
  refine bodyPost_ret (results_ct rfl _ _ gb187 31 #[.int .u8 0, .int .u16 0, .int .u32 0, .int .u32 0, .string (⟨#[]⟩ : ByteArray)] (0, 0) _ rfl (bs_) Tryz.underlying31 rfl (by kernel_rfl)) rfl ?_
  exact ⟨by first | rfl | (simp [errW_none, errW_some] <;> rfl) | (simp [*, errW_none, errW_some] <;> rfl), bel_⟩
 replace c7 := Bool.eq_false_iff.mpr c7
 subst c7
 rw [if_neg (show ¬ (false = true) by decide)] at H
 by_cases c22 : t202.toList = ([] : List UInt8)
 ·rw [if_pos c22] at H
  have c22b0 : (t202.toList == ([] : List UInt8)) = true := beq_iff_eq.mpr c22
  have c22b1 : (t202.toList != ([] : List UInt8)) = false := bne_eq_false_iff_eq.mpr c22
  clear c22
  replace H := Option.bind_eq_some_iff.mp H
  obtain ⟨t205, A230, H⟩ := H
  try dsimp only at H
  have A23 := ak_ A230
  clear A230
  by_cases c24 : t205 = 0
  ·rw [if_pos c24] at H
   have c24b0 : (t205 == 0) = true := beq_iff_eq.mpr c24
   have c24b1 : (t205 != 0) = false := bne_eq_false_iff_eq.mpr c24
   clear c24
   simp only [Option.some.injEq, Prod.mk.injEq] at H
   obtain ⟨rfl, rfl, rfl, rfl, rfl, rfl⟩ := H
   go_enter Tryz.func79, Tryz.ntmps79
   go_wp2_with (first | ((with_reducible refine gate_dst (N := 2) rfl ?_); refine bx_ (N := 2) (cs := #[.int .u8 0, .int .u16 0, .int .u32 0, .int .u32 0, .string (⟨#[]⟩ : ByteArray)]) (t := 31) ?_; intro gb187 hg w25 hbox hb; have BK187 := ak_ (hbox); have GW187 := ge_ hg; have GE187 := ge_ hg; replace HB := hb_ hb; clear hb hbox hg) | ((with_reducible refine gate_dst (N := 8) rfl ?_); refine bx_ (N := 8) (cs := #[.string a0, .bool false]) (t := 142) ?_; intro gb188 hg w26 hbox hb; have BK188 := ak_ (hbox); have GW188 := ge_ hg; have GE188 := ge_ hg; have NB187_188 := nl_ BK187 hg; have NB188_187 := ng_ BK187 hg; replace BK187 := kb_ BK187 hb; replace HB := hb_ hb; clear hb hbox hg) | ((with_reducible refine gate_callee (f := 93) rfl ?_); refine gl_ (some 10) Tryz.func93 #[.pointer (some ⟨gb188, 0, none⟩), .int .i64 1] ?_; (with_reducible refine (inode_taker_number.calls k gb188 a0 false 1 t189 t190 t191 w _ ?side1 ?side2 A2.out).mono ?_); (case side1 => exact ⟨(bk_ BK188), GE188.out⟩); (case side2 => repeat (first | (with_reducible first | exact HB.out | apply below_alloc | apply pw_below_drewN | apply below_drew1 | refine below_set ?_ GE187.out | refine below_set ?_ GE188.out) | exact HB.out)); rintro e w27 ⟨rfl, hi, hb, hk⟩; refine ⟨_, rfl, ?_⟩; replace BK187 := ak_ (KeepBut.blk hk (g' := gb187) (o := .cells #[.int .u8 0, .int .u16 0, .int .u32 0, .int .u32 0, .string (⟨#[]⟩ : ByteArray)] 31 (0, 0)) (bk_ BK187) NB187_188.out (by simp)); replace HB := ak_ (hb); replace BK188 := ak_ (hi.1); (try clear hb); (try clear hk); (try clear hi)) | ((with_reducible refine gate_callee (f := 93) rfl ?_); refine gl_ (some 13) Tryz.func93 #[.pointer (some ⟨gb188, 0, none⟩), .int .i64 2] ?_; (with_reducible refine (inode_taker_number.calls k gb188 t190 t191 2 t192 t193 t194 w _ ?side1 ?side2 A3.out).mono ?_); (case side1 => exact ⟨(bk_ BK188), GE188.out⟩); (case side2 => repeat (first | (with_reducible first | exact HB.out | apply below_alloc | apply pw_below_drewN | apply below_drew1 | refine below_set ?_ GE187.out | refine below_set ?_ GE188.out) | exact HB.out)); rintro e w28 ⟨rfl, hi, hb, hk⟩; refine ⟨_, rfl, ?_⟩; replace BK187 := ak_ (KeepBut.blk hk (g' := gb187) (o := .cells #[.int .u8 0, .int .u16 0, .int .u32 0, .int .u32 0, .string (⟨#[]⟩ : ByteArray)] 31 (0, 0)) (bk_ BK187) NB187_188.out (by simp)); replace HB := ak_ (hb); replace BK188 := ak_ (hi.1); (try clear hb); (try clear hk); (try clear hi)) | ((with_reducible refine gate_callee (f := 93) rfl ?_); refine gl_ (some 16) Tryz.func93 #[.pointer (some ⟨gb188, 0, none⟩), .int .i64 4] ?_; (with_reducible refine (inode_taker_number.calls k gb188 t193 t194 4 t195 t196 t197 w _ ?side1 ?side2 A4.out).mono ?_); (case side1 => exact ⟨(bk_ BK188), GE188.out⟩); (case side2 => repeat (first | (with_reducible first | exact HB.out | apply below_alloc | apply pw_below_drewN | apply below_drew1 | refine below_set ?_ GE187.out | refine below_set ?_ GE188.out) | exact HB.out)); rintro e w29 ⟨rfl, hi, hb, hk⟩; refine ⟨_, rfl, ?_⟩; replace BK187 := ak_ (KeepBut.blk hk (g' := gb187) (o := .cells #[.int .u8 0, .int .u16 0, .int .u32 0, .int .u32 0, .string (⟨#[]⟩ : ByteArray)] 31 (0, 0)) (bk_ BK187) NB187_188.out (by simp)); replace HB := ak_ (hb); replace BK188 := ak_ (hi.1); (try clear hb); (try clear hk); (try clear hi)) | ((with_reducible refine gate_callee (f := 93) rfl ?_); refine gl_ (some 19) Tryz.func93 #[.pointer (some ⟨gb188, 0, none⟩), .int .i64 4] ?_; (with_reducible refine (inode_taker_number.calls k gb188 t196 t197 4 t198 t199 t200 w _ ?side1 ?side2 A5.out).mono ?_); (case side1 => exact ⟨(bk_ BK188), GE188.out⟩); (case side2 => repeat (first | (with_reducible first | exact HB.out | apply below_alloc | apply pw_below_drewN | apply below_drew1 | refine below_set ?_ GE187.out | refine below_set ?_ GE188.out) | exact HB.out)); rintro e w30 ⟨rfl, hi, hb, hk⟩; refine ⟨_, rfl, ?_⟩; replace BK187 := ak_ (KeepBut.blk hk (g' := gb187) (o := .cells #[.int .u8 0, .int .u16 0, .int .u32 0, .int .u32 0, .string (⟨#[]⟩ : ByteArray)] 31 (0, 0)) (bk_ BK187) NB187_188.out (by simp)); replace HB := ak_ (hb); replace BK188 := ak_ (hi.1); (try clear hb); (try clear hk); (try clear hi)) | ((with_reducible refine gate_callee (f := 94) rfl ?_); refine gl_ (some 22) Tryz.func94 #[.pointer (some ⟨gb188, 0, none⟩)] ?_; (with_reducible refine (inode_taker_text.calls k gb188 t199 t200 t201 t202 false w _ ?side1 ?side2 A6.out).mono ?_); (case side1 => exact ⟨(bk_ BK188), GE188.out⟩); (case side2 => repeat (first | (with_reducible first | exact HB.out | apply below_alloc | apply pw_below_drewN | apply below_drew1 | refine below_set ?_ GE187.out | refine below_set ?_ GE188.out) | exact HB.out)); rintro e w31 ⟨rfl, hi, hb, hk⟩; refine ⟨_, rfl, ?_⟩; replace BK187 := ak_ (KeepBut.blk hk (g' := gb187) (o := .cells #[.int .u8 0, .int .u16 0, .int .u32 0, .int .u32 0, .string (⟨#[]⟩ : ByteArray)] 31 (0, 0)) (bk_ BK187) NB187_188.out (by simp)); replace HB := ak_ (hb); replace BK188 := ak_ (hi.1); (try clear hb); (try clear hk); (try clear hi)) | ((with_reducible refine gate_dst (N := 5) rfl ?_); refine bx_ (N := 5) (cs := #[.int .u8 0, .int .u16 0, .int .u32 0, .int .u32 0, .string (⟨#[]⟩ : ByteArray)]) (t := 31) ?_; intro gb204 hg w32 hbox hb; have BK204 := ak_ (hbox); have GW204 := ge_ hg; have GE204 := ge_ hg; have NB187_204 := nl_ BK187 hg; have NB204_187 := ng_ BK187 hg; have NB188_204 := nl_ BK188 hg; have NB204_188 := ng_ BK188 hg; replace BK187 := kb_ BK187 hb; replace BK188 := kb_ BK188 hb; replace HB := hb_ hb; clear hb hbox hg; have hnb33 := NB204_187.out; have hnc33 := NB187_204.out; have hnb34 := NB204_188.out; have hnc34 := NB188_204.out; obtain ⟨hcz35_0, hcz35_1, hcz35_2, hcz35_3, hcz35_4⟩ := cl5_ BK204; obtain ⟨hfz35_0, hfz35_1, hfz35_2, hfz35_3, hfz35_4⟩ := fz5_ BK204; have hnb36 := NB188_187.out; have hnc36 := NB187_188.out; obtain ⟨hcz37_0, hcz37_1⟩ := cl2_ BK188; obtain ⟨hfz37_0, hfz37_1⟩ := fz2_ BK188) | (go_at_call 51; (with_reducible refine (inode_Check.calls ((t189) % 256) (IntKind.u16.wrap (t192)) ((t195) % 4294967296) ((t198) % 4294967296) t201 t205 _ A23.out).mono ?_); rintro e w38 ⟨rfl, hb⟩; replace BK187 := ak_ (blk_below (g := gb187) (o := .cells #[.int .u8 0, .int .u16 0, .int .u32 0, .int .u32 0, .string (⟨#[]⟩ : ByteArray)] 31 (0, 0)) (bs_) hb); replace BK188 := ak_ (blk_below (g := gb188) (o := .cells #[.string t202, .bool false] 142 (0, 0)) (bs_) hb); replace BK204 := ak_ (blk_below (g := gb204) (o := .cells #[.int .u8 ((t189) % 256), .int .u16 (IntKind.u16.wrap (t192)), .int .u32 ((t195) % 4294967296), .int .u32 ((t198) % 4294967296), .string t201] 31 (0, 0)) (bs_) hb); replace HB := hb_ hb; (try clear hb); obtain ⟨hcz39_0, hcz39_1, hcz39_2, hcz39_3, hcz39_4⟩ := cl5_ BK204; obtain ⟨hfz39_0, hfz39_1, hfz39_2, hfz39_3, hfz39_4⟩ := fz5_ BK204; obtain ⟨hcz40_0, hcz40_1, hcz40_2, hcz40_3, hcz40_4⟩ := cl5_ BK187; obtain ⟨hfz40_0, hfz40_1, hfz40_2, hfz40_3, hfz40_4⟩ := fz5_ BK187))
   refine bodyPost_ret (results_ct rfl _ _ gb187 31 #[.int .u8 ((t189) % 256), .int .u16 (IntKind.u16.wrap (t192)), .int .u32 ((t195) % 4294967296), .int .u32 ((t198) % 4294967296), .string t201] (0, 0) _ rfl (bs_) Tryz.underlying31 rfl (by kernel_rfl)) rfl ?_
   exact ⟨by first | rfl | (simp [errW_none, errW_some] <;> rfl) | (simp [*, errW_none, errW_some] <;> rfl), bel_⟩
  rw [if_neg c24] at H
  have c24b0 : (t205 == 0) = false := beq_eq_false_iff_ne.mpr c24
  have c24b1 : (t205 != 0) = true := bne_iff_ne.mpr c24
  simp only [Option.some.injEq, Prod.mk.injEq] at H
  obtain ⟨rfl, rfl, rfl, rfl, rfl, rfl⟩ := H
  go_enter Tryz.func79, Tryz.ntmps79
  go_wp2_with (first | ((with_reducible refine gate_dst (N := 2) rfl ?_); refine bx_ (N := 2) (cs := #[.int .u8 0, .int .u16 0, .int .u32 0, .int .u32 0, .string (⟨#[]⟩ : ByteArray)]) (t := 31) ?_; intro gb187 hg w41 hbox hb; have BK187 := ak_ (hbox); have GW187 := ge_ hg; have GE187 := ge_ hg; replace HB := hb_ hb; clear hb hbox hg) | ((with_reducible refine gate_dst (N := 8) rfl ?_); refine bx_ (N := 8) (cs := #[.string a0, .bool false]) (t := 142) ?_; intro gb188 hg w42 hbox hb; have BK188 := ak_ (hbox); have GW188 := ge_ hg; have GE188 := ge_ hg; have NB187_188 := nl_ BK187 hg; have NB188_187 := ng_ BK187 hg; replace BK187 := kb_ BK187 hb; replace HB := hb_ hb; clear hb hbox hg) | ((with_reducible refine gate_callee (f := 93) rfl ?_); refine gl_ (some 10) Tryz.func93 #[.pointer (some ⟨gb188, 0, none⟩), .int .i64 1] ?_; (with_reducible refine (inode_taker_number.calls k gb188 a0 false 1 t189 t190 t191 w _ ?side1 ?side2 A2.out).mono ?_); (case side1 => exact ⟨(bk_ BK188), GE188.out⟩); (case side2 => repeat (first | (with_reducible first | exact HB.out | apply below_alloc | apply pw_below_drewN | apply below_drew1 | refine below_set ?_ GE187.out | refine below_set ?_ GE188.out) | exact HB.out)); rintro e w43 ⟨rfl, hi, hb, hk⟩; refine ⟨_, rfl, ?_⟩; replace BK187 := ak_ (KeepBut.blk hk (g' := gb187) (o := .cells #[.int .u8 0, .int .u16 0, .int .u32 0, .int .u32 0, .string (⟨#[]⟩ : ByteArray)] 31 (0, 0)) (bk_ BK187) NB187_188.out (by simp)); replace HB := ak_ (hb); replace BK188 := ak_ (hi.1); (try clear hb); (try clear hk); (try clear hi)) | ((with_reducible refine gate_callee (f := 93) rfl ?_); refine gl_ (some 13) Tryz.func93 #[.pointer (some ⟨gb188, 0, none⟩), .int .i64 2] ?_; (with_reducible refine (inode_taker_number.calls k gb188 t190 t191 2 t192 t193 t194 w _ ?side1 ?side2 A3.out).mono ?_); (case side1 => exact ⟨(bk_ BK188), GE188.out⟩); (case side2 => repeat (first | (with_reducible first | exact HB.out | apply below_alloc | apply pw_below_drewN | apply below_drew1 | refine below_set ?_ GE187.out | refine below_set ?_ GE188.out) | exact HB.out)); rintro e w44 ⟨rfl, hi, hb, hk⟩; refine ⟨_, rfl, ?_⟩; replace BK187 := ak_ (KeepBut.blk hk (g' := gb187) (o := .cells #[.int .u8 0, .int .u16 0, .int .u32 0, .int .u32 0, .string (⟨#[]⟩ : ByteArray)] 31 (0, 0)) (bk_ BK187) NB187_188.out (by simp)); replace HB := ak_ (hb); replace BK188 := ak_ (hi.1); (try clear hb); (try clear hk); (try clear hi)) | ((with_reducible refine gate_callee (f := 93) rfl ?_); refine gl_ (some 16) Tryz.func93 #[.pointer (some ⟨gb188, 0, none⟩), .int .i64 4] ?_; (with_reducible refine (inode_taker_number.calls k gb188 t193 t194 4 t195 t196 t197 w _ ?side1 ?side2 A4.out).mono ?_); (case side1 => exact ⟨(bk_ BK188), GE188.out⟩); (case side2 => repeat (first | (with_reducible first | exact HB.out | apply below_alloc | apply pw_below_drewN | apply below_drew1 | refine below_set ?_ GE187.out | refine below_set ?_ GE188.out) | exact HB.out)); rintro e w45 ⟨rfl, hi, hb, hk⟩; refine ⟨_, rfl, ?_⟩; replace BK187 := ak_ (KeepBut.blk hk (g' := gb187) (o := .cells #[.int .u8 0, .int .u16 0, .int .u32 0, .int .u32 0, .string (⟨#[]⟩ : ByteArray)] 31 (0, 0)) (bk_ BK187) NB187_188.out (by simp)); replace HB := ak_ (hb); replace BK188 := ak_ (hi.1); (try clear hb); (try clear hk); (try clear hi)) | ((with_reducible refine gate_callee (f := 93) rfl ?_); refine gl_ (some 19) Tryz.func93 #[.pointer (some ⟨gb188, 0, none⟩), .int .i64 4] ?_; (with_reducible refine (inode_taker_number.calls k gb188 t196 t197 4 t198 t199 t200 w _ ?side1 ?side2 A5.out).mono ?_); (case side1 => exact ⟨(bk_ BK188), GE188.out⟩); (case side2 => repeat (first | (with_reducible first | exact HB.out | apply below_alloc | apply pw_below_drewN | apply below_drew1 | refine below_set ?_ GE187.out | refine below_set ?_ GE188.out) | exact HB.out)); rintro e w46 ⟨rfl, hi, hb, hk⟩; refine ⟨_, rfl, ?_⟩; replace BK187 := ak_ (KeepBut.blk hk (g' := gb187) (o := .cells #[.int .u8 0, .int .u16 0, .int .u32 0, .int .u32 0, .string (⟨#[]⟩ : ByteArray)] 31 (0, 0)) (bk_ BK187) NB187_188.out (by simp)); replace HB := ak_ (hb); replace BK188 := ak_ (hi.1); (try clear hb); (try clear hk); (try clear hi)) | ((with_reducible refine gate_callee (f := 94) rfl ?_); refine gl_ (some 22) Tryz.func94 #[.pointer (some ⟨gb188, 0, none⟩)] ?_; (with_reducible refine (inode_taker_text.calls k gb188 t199 t200 t201 t202 false w _ ?side1 ?side2 A6.out).mono ?_); (case side1 => exact ⟨(bk_ BK188), GE188.out⟩); (case side2 => repeat (first | (with_reducible first | exact HB.out | apply below_alloc | apply pw_below_drewN | apply below_drew1 | refine below_set ?_ GE187.out | refine below_set ?_ GE188.out) | exact HB.out)); rintro e w47 ⟨rfl, hi, hb, hk⟩; refine ⟨_, rfl, ?_⟩; replace BK187 := ak_ (KeepBut.blk hk (g' := gb187) (o := .cells #[.int .u8 0, .int .u16 0, .int .u32 0, .int .u32 0, .string (⟨#[]⟩ : ByteArray)] 31 (0, 0)) (bk_ BK187) NB187_188.out (by simp)); replace HB := ak_ (hb); replace BK188 := ak_ (hi.1); (try clear hb); (try clear hk); (try clear hi)) | ((with_reducible refine gate_dst (N := 5) rfl ?_); refine bx_ (N := 5) (cs := #[.int .u8 0, .int .u16 0, .int .u32 0, .int .u32 0, .string (⟨#[]⟩ : ByteArray)]) (t := 31) ?_; intro gb204 hg w48 hbox hb; have BK204 := ak_ (hbox); have GW204 := ge_ hg; have GE204 := ge_ hg; have NB187_204 := nl_ BK187 hg; have NB204_187 := ng_ BK187 hg; have NB188_204 := nl_ BK188 hg; have NB204_188 := ng_ BK188 hg; replace BK187 := kb_ BK187 hb; replace BK188 := kb_ BK188 hb; replace HB := hb_ hb; clear hb hbox hg; have hnb49 := NB204_187.out; have hnc49 := NB187_204.out; have hnb50 := NB204_188.out; have hnc50 := NB188_204.out; obtain ⟨hcz51_0, hcz51_1, hcz51_2, hcz51_3, hcz51_4⟩ := cl5_ BK204; obtain ⟨hfz51_0, hfz51_1, hfz51_2, hfz51_3, hfz51_4⟩ := fz5_ BK204; have hnb52 := NB188_187.out; have hnc52 := NB187_188.out; obtain ⟨hcz53_0, hcz53_1⟩ := cl2_ BK188; obtain ⟨hfz53_0, hfz53_1⟩ := fz2_ BK188) | (go_at_call 51; (with_reducible refine (inode_Check.calls ((t189) % 256) (IntKind.u16.wrap (t192)) ((t195) % 4294967296) ((t198) % 4294967296) t201 t205 _ A23.out).mono ?_); rintro e w54 ⟨rfl, hb⟩; replace BK187 := ak_ (blk_below (g := gb187) (o := .cells #[.int .u8 0, .int .u16 0, .int .u32 0, .int .u32 0, .string (⟨#[]⟩ : ByteArray)] 31 (0, 0)) (bs_) hb); replace BK188 := ak_ (blk_below (g := gb188) (o := .cells #[.string t202, .bool false] 142 (0, 0)) (bs_) hb); replace BK204 := ak_ (blk_below (g := gb204) (o := .cells #[.int .u8 ((t189) % 256), .int .u16 (IntKind.u16.wrap (t192)), .int .u32 ((t195) % 4294967296), .int .u32 ((t198) % 4294967296), .string t201] 31 (0, 0)) (bs_) hb); replace HB := hb_ hb; (try clear hb); obtain ⟨hcz55_0, hcz55_1, hcz55_2, hcz55_3, hcz55_4⟩ := cl5_ BK187; obtain ⟨hfz55_0, hfz55_1, hfz55_2, hfz55_3, hfz55_4⟩ := fz5_ BK187))
  refine bodyPost_ret (results_ct rfl _ _ gb187 31 #[.int .u8 0, .int .u16 0, .int .u32 0, .int .u32 0, .string (⟨#[]⟩ : ByteArray)] (0, 0) _ rfl (bs_) Tryz.underlying31 rfl (by kernel_rfl)) rfl ?_
  exact ⟨by first | rfl | (simp [errW_none, errW_some] <;> rfl) | (simp [*, errW_none, errW_some] <;> rfl), bel_⟩
 rw [if_neg c22] at H
 have c22b0 : (t202.toList == ([] : List UInt8)) = false := beq_eq_false_iff_ne.mpr c22
 have c22b1 : (t202.toList != ([] : List UInt8)) = true := bne_iff_ne.mpr c22
 simp only [Option.some.injEq, Prod.mk.injEq] at H
 obtain ⟨rfl, rfl, rfl, rfl, rfl, rfl⟩ := H
 go_enter Tryz.func79, Tryz.ntmps79
 go_wp2_with (first | ((with_reducible refine gate_dst (N := 2) rfl ?_); refine bx_ (N := 2) (cs := #[.int .u8 0, .int .u16 0, .int .u32 0, .int .u32 0, .string (⟨#[]⟩ : ByteArray)]) (t := 31) ?_; intro gb187 hg w56 hbox hb; have BK187 := ak_ (hbox); have GW187 := ge_ hg; have GE187 := ge_ hg; replace HB := hb_ hb; clear hb hbox hg) | ((with_reducible refine gate_dst (N := 8) rfl ?_); refine bx_ (N := 8) (cs := #[.string a0, .bool false]) (t := 142) ?_; intro gb188 hg w57 hbox hb; have BK188 := ak_ (hbox); have GW188 := ge_ hg; have GE188 := ge_ hg; have NB187_188 := nl_ BK187 hg; have NB188_187 := ng_ BK187 hg; replace BK187 := kb_ BK187 hb; replace HB := hb_ hb; clear hb hbox hg) | ((with_reducible refine gate_callee (f := 93) rfl ?_); refine gl_ (some 10) Tryz.func93 #[.pointer (some ⟨gb188, 0, none⟩), .int .i64 1] ?_; (with_reducible refine (inode_taker_number.calls k gb188 a0 false 1 t189 t190 t191 w _ ?side1 ?side2 A2.out).mono ?_); (case side1 => exact ⟨(bk_ BK188), GE188.out⟩); (case side2 => repeat (first | (with_reducible first | exact HB.out | apply below_alloc | apply pw_below_drewN | apply below_drew1 | refine below_set ?_ GE187.out | refine below_set ?_ GE188.out) | exact HB.out)); rintro e w58 ⟨rfl, hi, hb, hk⟩; refine ⟨_, rfl, ?_⟩; replace BK187 := ak_ (KeepBut.blk hk (g' := gb187) (o := .cells #[.int .u8 0, .int .u16 0, .int .u32 0, .int .u32 0, .string (⟨#[]⟩ : ByteArray)] 31 (0, 0)) (bk_ BK187) NB187_188.out (by simp)); replace HB := ak_ (hb); replace BK188 := ak_ (hi.1); (try clear hb); (try clear hk); (try clear hi)) | ((with_reducible refine gate_callee (f := 93) rfl ?_); refine gl_ (some 13) Tryz.func93 #[.pointer (some ⟨gb188, 0, none⟩), .int .i64 2] ?_; (with_reducible refine (inode_taker_number.calls k gb188 t190 t191 2 t192 t193 t194 w _ ?side1 ?side2 A3.out).mono ?_); (case side1 => exact ⟨(bk_ BK188), GE188.out⟩); (case side2 => repeat (first | (with_reducible first | exact HB.out | apply below_alloc | apply pw_below_drewN | apply below_drew1 | refine below_set ?_ GE187.out | refine below_set ?_ GE188.out) | exact HB.out)); rintro e w59 ⟨rfl, hi, hb, hk⟩; refine ⟨_, rfl, ?_⟩; replace BK187 := ak_ (KeepBut.blk hk (g' := gb187) (o := .cells #[.int .u8 0, .int .u16 0, .int .u32 0, .int .u32 0, .string (⟨#[]⟩ : ByteArray)] 31 (0, 0)) (bk_ BK187) NB187_188.out (by simp)); replace HB := ak_ (hb); replace BK188 := ak_ (hi.1); (try clear hb); (try clear hk); (try clear hi)) | ((with_reducible refine gate_callee (f := 93) rfl ?_); refine gl_ (some 16) Tryz.func93 #[.pointer (some ⟨gb188, 0, none⟩), .int .i64 4] ?_; (with_reducible refine (inode_taker_number.calls k gb188 t193 t194 4 t195 t196 t197 w _ ?side1 ?side2 A4.out).mono ?_); (case side1 => exact ⟨(bk_ BK188), GE188.out⟩); (case side2 => repeat (first | (with_reducible first | exact HB.out | apply below_alloc | apply pw_below_drewN | apply below_drew1 | refine below_set ?_ GE187.out | refine below_set ?_ GE188.out) | exact HB.out)); rintro e w60 ⟨rfl, hi, hb, hk⟩; refine ⟨_, rfl, ?_⟩; replace BK187 := ak_ (KeepBut.blk hk (g' := gb187) (o := .cells #[.int .u8 0, .int .u16 0, .int .u32 0, .int .u32 0, .string (⟨#[]⟩ : ByteArray)] 31 (0, 0)) (bk_ BK187) NB187_188.out (by simp)); replace HB := ak_ (hb); replace BK188 := ak_ (hi.1); (try clear hb); (try clear hk); (try clear hi)) | ((with_reducible refine gate_callee (f := 93) rfl ?_); refine gl_ (some 19) Tryz.func93 #[.pointer (some ⟨gb188, 0, none⟩), .int .i64 4] ?_; (with_reducible refine (inode_taker_number.calls k gb188 t196 t197 4 t198 t199 t200 w _ ?side1 ?side2 A5.out).mono ?_); (case side1 => exact ⟨(bk_ BK188), GE188.out⟩); (case side2 => repeat (first | (with_reducible first | exact HB.out | apply below_alloc | apply pw_below_drewN | apply below_drew1 | refine below_set ?_ GE187.out | refine below_set ?_ GE188.out) | exact HB.out)); rintro e w61 ⟨rfl, hi, hb, hk⟩; refine ⟨_, rfl, ?_⟩; replace BK187 := ak_ (KeepBut.blk hk (g' := gb187) (o := .cells #[.int .u8 0, .int .u16 0, .int .u32 0, .int .u32 0, .string (⟨#[]⟩ : ByteArray)] 31 (0, 0)) (bk_ BK187) NB187_188.out (by simp)); replace HB := ak_ (hb); replace BK188 := ak_ (hi.1); (try clear hb); (try clear hk); (try clear hi)) | ((with_reducible refine gate_callee (f := 94) rfl ?_); refine gl_ (some 22) Tryz.func94 #[.pointer (some ⟨gb188, 0, none⟩)] ?_; (with_reducible refine (inode_taker_text.calls k gb188 t199 t200 t201 t202 false w _ ?side1 ?side2 A6.out).mono ?_); (case side1 => exact ⟨(bk_ BK188), GE188.out⟩); (case side2 => repeat (first | (with_reducible first | exact HB.out | apply below_alloc | apply pw_below_drewN | apply below_drew1 | refine below_set ?_ GE187.out | refine below_set ?_ GE188.out) | exact HB.out)); rintro e w62 ⟨rfl, hi, hb, hk⟩; refine ⟨_, rfl, ?_⟩; replace BK187 := ak_ (KeepBut.blk hk (g' := gb187) (o := .cells #[.int .u8 0, .int .u16 0, .int .u32 0, .int .u32 0, .string (⟨#[]⟩ : ByteArray)] 31 (0, 0)) (bk_ BK187) NB187_188.out (by simp)); replace HB := ak_ (hb); replace BK188 := ak_ (hi.1); (try clear hb); (try clear hk); (try clear hi)) | ((with_reducible refine gate_dst (N := 5) rfl ?_); refine bx_ (N := 5) (cs := #[.int .u8 0, .int .u16 0, .int .u32 0, .int .u32 0, .string (⟨#[]⟩ : ByteArray)]) (t := 31) ?_; intro gb204 hg w63 hbox hb; have BK204 := ak_ (hbox); have GW204 := ge_ hg; have GE204 := ge_ hg; have NB187_204 := nl_ BK187 hg; have NB204_187 := ng_ BK187 hg; have NB188_204 := nl_ BK188 hg; have NB204_188 := ng_ BK188 hg; replace BK187 := kb_ BK187 hb; replace BK188 := kb_ BK188 hb; replace HB := hb_ hb; clear hb hbox hg; have hnb64 := NB204_187.out; have hnc64 := NB187_204.out; have hnb65 := NB204_188.out; have hnc65 := NB188_204.out; obtain ⟨hcz66_0, hcz66_1, hcz66_2, hcz66_3, hcz66_4⟩ := cl5_ BK204; obtain ⟨hfz66_0, hfz66_1, hfz66_2, hfz66_3, hfz66_4⟩ := fz5_ BK204; have hnb67 := NB188_187.out; have hnc67 := NB187_188.out; obtain ⟨hcz68_0, hcz68_1⟩ := cl2_ BK188; obtain ⟨hfz68_0, hfz68_1⟩ := fz2_ BK188; obtain ⟨hcz69_0, hcz69_1, hcz69_2, hcz69_3, hcz69_4⟩ := cl5_ BK187; obtain ⟨hfz69_0, hfz69_1, hfz69_2, hfz69_3, hfz69_4⟩ := fz5_ BK187))
 refine bodyPost_ret (results_ct rfl _ _ gb187 31 #[.int .u8 0, .int .u16 0, .int .u32 0, .int .u32 0, .string (⟨#[]⟩ : ByteArray)] (0, 0) _ rfl (bs_) Tryz.underlying31 rfl (by kernel_rfl)) rfl ?_
 exact ⟨by first | rfl | (simp [errW_none, errW_some] <;> rfl) | (simp [*, errW_none, errW_some] <;> rfl), bel_⟩
def item_right.f (a0 : ByteArray) (a1 : ByteArray) : Option (Bool) := if a0.toList = ([] : List UInt8) then (some false) else (if (a0.size : Int) ≤ 48 then (some (decide ((a1.size : Int) ≤ 160))) else (some false))
set_option maxHeartbeats 64000000 in
set_option maxRecDepth 100000 in
theorem item_right.calls (a0 : ByteArray) (a1 : ByteArray) (r : Bool) (w : World) (h : item_right.f a0 a1 = some r) :
  Calls Tryz.prog 95 #[.string a0, .string a1] w fun e w' => e = .returned (.bool r) ∧ Drawn0 w w' := by
 have H : (if a0.toList = ([] : List UInt8) then (some false) else (if (a0.size : Int) ≤ 48 then (some (decide ((a1.size : Int) ≤ 160))) else (some false))) = some r := h
 clear h
 refine Or.elim (Classical.em (a0.toList = ([] : List UInt8))) (fun c3 => ?p1_) (fun c3 => ?n1_)
 case' p1_ =>
  rw [if_pos c3] at H
  have c3b0 : (a0.toList == ([] : List UInt8)) = true := beq_iff_eq.mpr c3
  have c3b1 : (a0.toList != ([] : List UInt8)) = false := bne_eq_false_iff_eq.mpr c3
  clear c3
  obtain rfl := Option.some.inj H
  refine ?z1_
 case' n1_ =>
  rw [if_neg c3] at H
  have c3b0 : (a0.toList == ([] : List UInt8)) = false := beq_eq_false_iff_ne.mpr c3
  have c3b1 : (a0.toList != ([] : List UInt8)) = true := bne_iff_ne.mpr c3
  refine Or.elim (Classical.em ((a0.size : Int) ≤ 48)) (fun c4 => ?p2_) (fun c4 => ?n2_)
  case' p2_ =>
   rw [if_pos c4] at H
   have c4b0 : decide ((a0.size : Int) ≤ 48) = true := decide_eq_true c4
   have c4b1 : decide (a0.size ≤ 48) = true := decide_eq_true (by omega)
   clear c4
   obtain rfl := Option.some.inj H
   refine ?z2_
  case' n2_ =>
   rw [if_neg c4] at H
   have c4b0 : decide ((a0.size : Int) ≤ 48) = false := decide_eq_false c4
   have c4b1 : decide (a0.size ≤ 48) = false := decide_eq_false (by omega)
   clear c4
   obtain rfl := Option.some.inj H
   refine ?z3_
 case p1_ | p2_ | n2_ =>
  go_enter Tryz.func95, Tryz.ntmps95
  go_wp2
  go_ret
  exact ⟨by first | rfl | (simp; done) | (simp [*]; done), by repeat (first | exact Drawn0.refl _ | apply Drawn0.step)⟩
end Go.Proofs.YtpnmajblhgnkoaaGreat.Z
end

section
namespace Go.Proofs.YtpnmajblhgnkoaaGreat.Z
open Go
theorem bl_irrefl : ∀ x : List UInt8, Op.bytesLess x x = false
  | [] => rfl
  | a :: x => by simp [Op.bytesLess, bl_irrefl x]
theorem bl_trans : ∀ {x y z : List UInt8}, Op.bytesLess x y = true → Op.bytesLess y z = true → Op.bytesLess x z = true
  | _, [], _, h, _ => by simp [Op.bytesLess] at h
  | [], _ :: _, [], _, h => by simp [Op.bytesLess] at h
  | _ :: _, _ :: _, [], _, h => by simp [Op.bytesLess] at h
  | [], _ :: _, _ :: _, _, _ => rfl
  | a :: x, b :: y, c :: z, h, k => by
    simp only [Op.bytesLess, Bool.or_eq_true, decide_eq_true_eq, Bool.and_eq_true, beq_iff_eq] at h k ⊢
    rcases h with h | ⟨rfl, h⟩ <;> rcases k with k | ⟨rfl, k⟩
    · exact .inl (UInt8.lt_trans h k)
    · exact .inl h
    · exact .inl k
    · exact .inr ⟨rfl, bl_trans h k⟩
theorem bl_total : ∀ x y : List UInt8, x = y ∨ Op.bytesLess x y = true ∨ Op.bytesLess y x = true
  | [], [] => .inl rfl
  | [], _ :: _ => .inr (.inl rfl)
  | _ :: _, [] => .inr (.inr rfl)
  | a :: x, b :: y => by
    simp only [Op.bytesLess, Bool.or_eq_true, decide_eq_true_eq, Bool.and_eq_true, beq_iff_eq]
    rcases Nat.lt_trichotomy a.toNat b.toNat with h | h | h
    · exact .inr (.inl (.inl (UInt8.lt_iff_toNat_lt.2 h)))
    · obtain rfl := UInt8.toNat_inj.1 h
      rcases bl_total x y with rfl | k | k
      · exact .inl rfl
      · exact .inr (.inl (.inr ⟨rfl, k⟩))
      · exact .inr (.inr (.inr ⟨rfl, k⟩))
    · exact .inr (.inr (.inl (UInt8.lt_iff_toNat_lt.2 h)))
theorem bl_asymm {x y : List UInt8} (h : Op.bytesLess x y = true) : Op.bytesLess y x = false := by
  cases k : Op.bytesLess y x
  · rfl
  · have := bl_trans h k; rw [bl_irrefl] at this; cases this
theorem bl_ne {x y : List UInt8} (h : Op.bytesLess x y = true) : x ≠ y := by rintro rfl; rw [bl_irrefl] at h; cases h
theorem bl_leq (x y : List UInt8) : (Op.bytesLess x y || x == y) = !Op.bytesLess y x := by
  rcases bl_total x y with rfl | h | h
  · simp [bl_irrefl]
  · simp [h, bl_asymm h]
  · have : (x == y) = false := by simpa using (bl_ne h).symm
    simp [h, bl_asymm h, this]
theorem bl_gtr (x y : List UInt8) : (!(Op.bytesLess x y || x == y)) = Op.bytesLess y x := by rw [bl_leq]; simp
@[go_sem] theorem binOp_string_gtr_ (t : TypeId) (a b : ByteArray) : binOp .gtr t (.string a) (.string b) = pure (.bool (Op.bytesLess b.toList a.toList)) := by
  simp [binOp, Op.stringOp]
  rw [← Bool.not_or, bl_gtr]
@[go_sem] theorem binOp_string_leq_ (t : TypeId) (a b : ByteArray) : binOp .leq t (.string a) (.string b) = pure (.bool !(Op.bytesLess b.toList a.toList)) := by
  simp [binOp, Op.stringOp]
  rw [bl_leq]
@[go_sem] theorem binOp_string_geq_ (t : TypeId) (a b : ByteArray) : binOp .geq t (.string a) (.string b) = pure (.bool !(Op.bytesLess a.toList b.toList)) := by
  simp [binOp, Op.stringOp]
end Go.Proofs.YtpnmajblhgnkoaaGreat.Z
end

section
namespace Go.Proofs.YtpnmajblhgnkoaaGreat.Z
attribute [local go_sem] max2_int min2_int max_two min_two max_three min_three max_four min_four   -- for this text's walks alone
def item_Check.l0 : Nat → List (S56) → List (S56) → Int → Int → Option (Int)
 | 0, _, _, _, _ => none
 | k + 1, x0, x5, x6, x7 => if x7 < x6 then (if 0 ≤ x7 then (if x7 < (x5.length : Int) then ((item_right.f ((rd_T56 x5 x7).f0) ((rd_T56 x5 x7).f1)).bind fun t137 => (if t137 = true then (if x7 > 0 then (if 0 ≤ (wrap64 (x7 - 1)) then (if (wrap64 (x7 - 1)) < (x0.length : Int) then (if ((Op.bytesLess (((rd_T56 x0 (wrap64 (x7 - 1))).f0).toList) (((rd_T56 x5 x7).f0).toList)) = true) then (item_Check.l0 k x0 x5 x6 (wrap64 (x7 + 1))) else (some 4)) else (none)) else (none)) else (item_Check.l0 k x0 x5 x6 (wrap64 (x7 + 1)))) else (some 4))) else (none)) else (none)) else (some 0)
def item_Check.f (k : Nat) (l0 : List (S56)) : Option (Int) := item_Check.l0 k l0 l0 (l0.length : Int) 0
theorem item_Check.mono_l : ∀ k, (∀ y0 y1 y2 y3, LeO (item_Check.l0 k y0 y1 y2 y3) (item_Check.l0 (k + 1) y0 y1 y2 y3))
 | 0 => by intros; intro r h; simp [item_Check.l0] at h
 | k + 1 => by
  have ih0 := item_Check.mono_l k
  intros
  unfold item_Check.l0
  repeat' (first | (with_reducible first | exact ih0 _ _ _ _ | exact LeO.refl _ | exact LeO.none _ | refine LeO.ite ?_ ?_ | refine LeO.bind ?_ (fun _ => ?_)))
theorem item_Check.mono : ∀ a0 k, LeO (item_Check.f k a0) (item_Check.f (k + 1) a0) := by
 intro a0 k
 have ih0 := item_Check.mono_l k
 unfold item_Check.f
 repeat' (first | (with_reducible first | exact ih0 _ _ _ _ | exact LeO.refl _ | exact LeO.none _ | refine LeO.ite ?_ ?_ | refine LeO.bind ?_ (fun _ => ?_)))
set_option maxHeartbeats 64000000 in
set_option maxRecDepth 100000 in
theorem item_Check.calls (k : Nat) (A0 : Option Addr) (c0 : Nat) (l0 : List (S56)) (r : Int) (w : World) (hr0 : Kd.C k56 w A0 l0.length l0) (hc0 : l0.length ≤ c0) (h : item_Check.f k l0 = some r) :
  Calls Tryz.prog 80 #[.slice A0 l0.length c0] w fun e w' => e = .returned (.int .i64 r) ∧ Below w.heap.size w w' := by
 have hu56 := Tryz.underlying56
 have HR0 := ak_ hr0
 have HC0 := ak_ hc0
 clear hr0 hc0
 have HB := ak_ (Below.refl w.heap.size w)
 have H : (item_Check.l0 k l0 l0 (l0.length : Int) 0) = some r := h
 clear h
 have H' := ak_ H
 clear H
 go_enter Tryz.func80, Tryz.ntmps80
 go_wp2
 go_loopg [7] k (fun kq v7 w' => ∃ (x7_1 : Int), v7 = .int .i64 x7_1 ∧ Aside0 (item_Check.l0 kq l0 l0 (l0.length : Int) x7_1 = some r) ∧ Aside0 (kq ≤ k) ∧ Aside0 (Below w.heap.size w w'))
 case atStart => exact ⟨(0), rfl, H', ⟨Nat.le_refl _⟩, ⟨bel_⟩⟩
 case round =>
  clear H'
  obtain ⟨x7_1, rfl, HA, HK1, HB⟩ := hrel
  cases gk with
  | zero => exact absurd HA.out (by simp [item_Check.l0])
  | succ k1 =>
   have H := HA.out
   clear HA
   simp only [item_Check.l0] at H
   refine Or.elim (Classical.em (x7_1 < (l0.length : Int))) (fun c2 => ?p1_) (fun c2 => ?n1_)
   case' p1_ =>
    rw [if_pos c2] at H
    have c2b0 : decide (x7_1 < (l0.length : Int)) = true := decide_eq_true c2
    clear c2
    refine Or.elim (Classical.em (0 ≤ x7_1)) (fun c3 => ?p2_) (fun c3 => ?n2_)
    case' p2_ =>
     rw [if_pos c3] at H
     have c3b0 : decide (0 ≤ x7_1) = true := decide_eq_true c3
     clear c3
     refine Or.elim (Classical.em (x7_1 < (l0.length : Int))) (fun c4 => ?p3_) (fun c4 => ?n3_)
     case' p3_ =>
      rw [if_pos c4] at H
      have c4b0 : decide (x7_1 < (l0.length : Int)) = true := decide_eq_true c4
      clear c4
      replace H := Option.bind_eq_some_iff.mp H
      obtain ⟨t137, A50, H⟩ := H
      try dsimp only at H
      have A5 := ak_ A50
      clear A50
      refine Or.elim (Classical.em (t137 = true)) (fun c6 => ?p4_) (fun c6 => ?n4_)
      case' p4_ =>
       subst c6
       rw [if_pos rfl] at H
       refine Or.elim (Classical.em (x7_1 > 0)) (fun c7 => ?p5_) (fun c7 => ?n5_)
       case' p5_ =>
        rw [if_pos c7] at H
        have c7b0 : decide (0 < x7_1) = true := decide_eq_true c7
        clear c7
        obtain ⟨ji8, hji8⟩ : ∃ j_ : Int, (wrap64 (x7_1 - 1)) = j_ := ⟨_, rfl⟩
        replace H : (if 0 ≤ (ji8) then (if (ji8) < (l0.length : Int) then (if ((Op.bytesLess (((rd_T56 l0 (ji8)).f0).toList) (((rd_T56 l0 x7_1).f0).toList)) = true) then (item_Check.l0 k1 l0 l0 (l0.length : Int) (wrap64 (x7_1 + 1))) else (some 4)) else (none)) else (none)) = some r := by first | (rw [hji8] at H; exact H) | (simp only [hji8] at H ⊢; exact H)
        (try rw [hji8] at A5)
        have hji8w : (IntKind.i64.wrap (x7_1 - 1)) = ji8 := (i64_w _).trans hji8
        refine Or.elim (Classical.em (0 ≤ (ji8))) (fun c9 => ?p6_) (fun c9 => ?n6_)
        case' p6_ =>
         rw [if_pos c9] at H
         have c9b0 : decide (0 ≤ (ji8)) = true := decide_eq_true c9
         clear c9
         refine Or.elim (Classical.em ((ji8) < (l0.length : Int))) (fun c10 => ?p7_) (fun c10 => ?n7_)
         case' p7_ =>
          rw [if_pos c10] at H
          have c10b0 : decide ((ji8) < (l0.length : Int)) = true := decide_eq_true c10
          clear c10
          refine Or.elim (Classical.em (((Op.bytesLess (((rd_T56 l0 (ji8)).f0).toList) (((rd_T56 l0 x7_1).f0).toList)) = true))) (fun c11 => ?p8_) (fun c11 => ?n8_)
          case' p8_ =>
           rw [if_pos c11] at H
           have c11b0 : (Op.bytesLess (((rd_T56 l0 (ji8)).f0).toList) (((rd_T56 l0 x7_1).f0).toList)) = true := c11
           clear c11
           refine ?z1_
          case' n8_ =>
           rw [if_neg c11] at H
           have c11b0 : (Op.bytesLess (((rd_T56 l0 (ji8)).f0).toList) (((rd_T56 l0 x7_1).f0).toList)) = false := by simpa using c11
           clear c11
           obtain rfl := Option.some.inj H
           have p135 : 0 ≤ (x7_1 : Int) := of_decide_eq_true (by first | (with_reducible assumption) | assumption)
           have q135 : x7_1 < (l0.length : Int) := of_decide_eq_true (by first | (with_reducible assumption) | assumption)
           obtain ⟨ad135, e135, hx135_0, hx135_1⟩ := at_T56 HR0.out x7_1 p135 q135
           cases e135
           replace hx135_0 := (HB.out.cell (World.block_lt_of_cell? w _ hx135_0)).trans hx135_0
           replace hx135_1 := (HB.out.cell (World.block_lt_of_cell? w _ hx135_1)).trans hx135_1
           replace p135 := eq_true p135
           replace q135 := eq_true q135
           refine ?z3_
         case n7_ =>
          rw [if_neg c10] at H
          exact absurd H (by simp)
        case n6_ =>
         rw [if_neg c9] at H
         exact absurd H (by simp)
       case' n5_ =>
        rw [if_neg c7] at H
        have c7b0 : decide (0 < x7_1) = false := decide_eq_false c7
        clear c7
        refine ?z2_
      case' n4_ =>
       replace c6 := Bool.eq_false_iff.mpr c6
       subst c6
       rw [if_neg (show ¬ (false = true) by decide)] at H
       obtain rfl := Option.some.inj H
       have p135 : 0 ≤ (x7_1 : Int) := of_decide_eq_true (by first | (with_reducible assumption) | assumption)
       have q135 : x7_1 < (l0.length : Int) := of_decide_eq_true (by first | (with_reducible assumption) | assumption)
       obtain ⟨ad135, e135, hx135_0, hx135_1⟩ := at_T56 HR0.out x7_1 p135 q135
       cases e135
       replace hx135_0 := (HB.out.cell (World.block_lt_of_cell? w _ hx135_0)).trans hx135_0
       replace hx135_1 := (HB.out.cell (World.block_lt_of_cell? w _ hx135_1)).trans hx135_1
       replace p135 := eq_true p135
       replace q135 := eq_true q135
       refine ?z4_
     case n3_ =>
      rw [if_neg c4] at H
      exact absurd H (by simp)
    case n2_ =>
     rw [if_neg c3] at H
     exact absurd H (by simp)
   case n1_ =>
    rw [if_neg c2] at H
    have c2b0 : decide (x7_1 < (l0.length : Int)) = false := decide_eq_false c2
    clear c2
    obtain rfl := Option.some.inj H
    go_wp2
    go_ret
    exact ⟨rfl, bel_⟩
   case p8_ | n5_ =>
    have H' := ak_ H
    clear H
    have p135 : 0 ≤ (x7_1 : Int) := of_decide_eq_true (by first | (with_reducible assumption) | assumption)
    have q135 : x7_1 < (l0.length : Int) := of_decide_eq_true (by first | (with_reducible assumption) | assumption)
    obtain ⟨ad135, e135, hx135_0, hx135_1⟩ := at_T56 HR0.out x7_1 p135 q135
    cases e135
    replace hx135_0 := (HB.out.cell (World.block_lt_of_cell? w _ hx135_0)).trans hx135_0
    replace hx135_1 := (HB.out.cell (World.block_lt_of_cell? w _ hx135_1)).trans hx135_1
    replace p135 := eq_true p135
    replace q135 := eq_true q135
    go_wp2_with (first | ((with_reducible refine gate_dst (N := 4) rfl ?_); refine bx_ (N := 4) (cs := #[.string (⟨#[]⟩ : ByteArray), .string (⟨#[]⟩ : ByteArray)]) (t := 56) ?_; intro gb136 hg w901 hbox hb; have BK136 := ak_ (hbox); have GW136 := ge_ hg; have GE136 := ge_ hg; replace HB := hb_ hb; clear hb hbox hg; obtain ⟨hcz902_0, hcz902_1⟩ := cl2_ BK136; obtain ⟨hfz902_0, hfz902_1⟩ := fz2_ BK136) | (go_at_call 95; (with_reducible refine (item_right.calls ((rd_T56 l0 x7_1).f0) ((rd_T56 l0 x7_1).f1) true _ A5.out).mono ?_); rintro e w' ⟨rfl, ⟨nd, rfl⟩⟩; (try first | exact ⟨rfl, _, World.drewN_drewN _ _ _⟩ | exact ⟨rfl, _, Eq.trans (World.drewN_drewN _ _ _) (congrArg (World.drewN _) (Nat.add_assoc _ _ _))⟩); have p138 : 0 ≤ ((ji8) : Int) := of_decide_eq_true (by first | (with_reducible assumption) | assumption); have q138 : (ji8) < (l0.length : Int) := of_decide_eq_true (by first | (with_reducible assumption) | assumption); obtain ⟨ad138, e138, hx138_0, hx138_1⟩ := at_T56 HR0.out (ji8) p138 q138; obtain rfl : ad135 = ad138 := (by injection e138); have hn138_0 : ad135.block ≠ gb136 := Nat.ne_of_lt (Nat.lt_of_lt_of_le (by have := World.block_lt_of_cell? _ _ hx138_0; first | rwa [add_block] at this | exact this) GW136.out); have hn138_1 : ad135.block ≠ gb136 := Nat.ne_of_lt (Nat.lt_of_lt_of_le (by have := World.block_lt_of_cell? _ _ hx138_0; first | rwa [add_block] at this | exact this) GW136.out); replace hx138_0 := (HB.out.cell (World.block_lt_of_cell? w _ hx138_0)).trans hx138_0; replace hx138_1 := (HB.out.cell (World.block_lt_of_cell? w _ hx138_1)).trans hx138_1; replace hx138_0 := (cell_far (p := ⟨gb136, 0, none⟩) (by first | (rw [add_block]; exact hn138_0) | (show (Addr.add _ _).block ≠ _; rw [add_block]; exact hn138_0) | exact hn138_0) (.string ((rd_T56 l0 x7_1).f0))).trans hx138_0; replace hx138_1 := (cell_far (p := ⟨gb136, 0, none⟩) (by first | (rw [add_block]; exact hn138_0) | (show (Addr.add _ _).block ≠ _; rw [add_block]; exact hn138_0) | exact hn138_0) (.string ((rd_T56 l0 x7_1).f0))).trans hx138_1; replace hx138_0 := (cell_far (p := ⟨gb136, 1, none⟩) (by first | (rw [add_block]; exact hn138_1) | (show (Addr.add _ _).block ≠ _; rw [add_block]; exact hn138_1) | exact hn138_1) (.string ((rd_T56 l0 x7_1).f1))).trans hx138_0; replace hx138_1 := (cell_far (p := ⟨gb136, 1, none⟩) (by first | (rw [add_block]; exact hn138_1) | (show (Addr.add _ _).block ≠ _; rw [add_block]; exact hn138_1) | exact hn138_1) (.string ((rd_T56 l0 x7_1).f1))).trans hx138_1; (try have hy138_0 := fun (n_ : Nat) => (show ((((w901.drewN n_).setCell ⟨gb136, 0, none⟩ (.string ((rd_T56 l0 x7_1).f0))).setCell ⟨gb136, 1, none⟩ (.string ((rd_T56 l0 x7_1).f1)))).cell? _ = some _ from hx138_0)); (try have hy138_1 := fun (n_ : Nat) => (show ((((w901.drewN n_).setCell ⟨gb136, 0, none⟩ (.string ((rd_T56 l0 x7_1).f0))).setCell ⟨gb136, 1, none⟩ (.string ((rd_T56 l0 x7_1).f1)))).cell? _ = some _ from hx138_1)); clear hn138_0; clear hn138_1; replace p138 := eq_true p138; replace q138 := eq_true q138) | (go_at_call 95; (with_reducible refine (item_right.calls ((rd_T56 l0 x7_1).f0) ((rd_T56 l0 x7_1).f1) true _ A5.out).mono ?_); rintro e w' ⟨rfl, ⟨nd, rfl⟩⟩; (try first | exact ⟨rfl, _, World.drewN_drewN _ _ _⟩ | exact ⟨rfl, _, Eq.trans (World.drewN_drewN _ _ _) (congrArg (World.drewN _) (Nat.add_assoc _ _ _))⟩)))
    repeat (go_quiet (first | ((with_reducible refine gate_dst (N := 4) rfl ?_); refine bx_ (N := 4) (cs := #[.string (⟨#[]⟩ : ByteArray), .string (⟨#[]⟩ : ByteArray)]) (t := 56) ?_; intro gb136 hg w901 hbox hb; have n0_ := ak_ (below_step bel_ hb); have n1_ := ak_ (hbox); have n2_ := ak_ ((by rw [hg]; exact (below_size bel_) : w.heap.size ≤ gb136)); have n3_ := ak_ ((by rw [hg]; exact (below_size bel_) : w.heap.size ≤ gb136)); clear HB; have HB := n0_; have BK136 := n1_; have GW136 := n2_; have GE136 := n3_; clear n0_ n1_ n2_ n3_; clear hb hbox hg; have hcz902_0 : w901.cell? ⟨gb136, 0, none⟩ = some (.string (⟨#[]⟩ : ByteArray)) := (blk_cell BK136.out 0).trans rfl; have hcz902_1 : w901.cell? ⟨gb136, 1, none⟩ = some (.string (⟨#[]⟩ : ByteArray)) := (blk_cell BK136.out 1).trans rfl; have hfz902_0 := blk_frozen BK136.out 0; have hfz902_1 := blk_frozen BK136.out 1) | (go_at_call 95; (with_reducible refine (item_right.calls ((rd_T56 l0 x7_1).f0) ((rd_T56 l0 x7_1).f1) true _ A5.out).mono ?_); rintro e w' ⟨rfl, ⟨nd, rfl⟩⟩; (try first | exact ⟨rfl, _, World.drewN_drewN _ _ _⟩ | exact ⟨rfl, _, Eq.trans (World.drewN_drewN _ _ _) (congrArg (World.drewN _) (Nat.add_assoc _ _ _))⟩); have p138 : 0 ≤ ((ji8) : Int) := of_decide_eq_true (by first | (with_reducible assumption) | assumption); have q138 : (ji8) < (l0.length : Int) := of_decide_eq_true (by first | (with_reducible assumption) | assumption); obtain ⟨ad138, e138, hx138_0, hx138_1⟩ := at_T56 HR0.out (ji8) p138 q138; obtain rfl : ad135 = ad138 := (by injection e138); have hn138_0 : ad135.block ≠ gb136 := Nat.ne_of_lt (Nat.lt_of_lt_of_le (by have := World.block_lt_of_cell? _ _ hx138_0; first | rwa [add_block] at this | exact this) GW136.out); have hn138_1 : ad135.block ≠ gb136 := Nat.ne_of_lt (Nat.lt_of_lt_of_le (by have := World.block_lt_of_cell? _ _ hx138_0; first | rwa [add_block] at this | exact this) GW136.out); replace hx138_0 := (HB.out.cell (World.block_lt_of_cell? w _ hx138_0)).trans hx138_0; replace hx138_1 := (HB.out.cell (World.block_lt_of_cell? w _ hx138_1)).trans hx138_1; replace hx138_0 := (cell_far (p := ⟨gb136, 0, none⟩) (by first | (rw [add_block]; exact hn138_0) | (show (Addr.add _ _).block ≠ _; rw [add_block]; exact hn138_0) | exact hn138_0) (.string ((rd_T56 l0 x7_1).f0))).trans hx138_0; replace hx138_1 := (cell_far (p := ⟨gb136, 0, none⟩) (by first | (rw [add_block]; exact hn138_0) | (show (Addr.add _ _).block ≠ _; rw [add_block]; exact hn138_0) | exact hn138_0) (.string ((rd_T56 l0 x7_1).f0))).trans hx138_1; replace hx138_0 := (cell_far (p := ⟨gb136, 1, none⟩) (by first | (rw [add_block]; exact hn138_1) | (show (Addr.add _ _).block ≠ _; rw [add_block]; exact hn138_1) | exact hn138_1) (.string ((rd_T56 l0 x7_1).f1))).trans hx138_0; replace hx138_1 := (cell_far (p := ⟨gb136, 1, none⟩) (by first | (rw [add_block]; exact hn138_1) | (show (Addr.add _ _).block ≠ _; rw [add_block]; exact hn138_1) | exact hn138_1) (.string ((rd_T56 l0 x7_1).f1))).trans hx138_1; (try have hy138_0 := fun (n_ : Nat) => (show ((((w901.drewN n_).setCell ⟨gb136, 0, none⟩ (.string ((rd_T56 l0 x7_1).f0))).setCell ⟨gb136, 1, none⟩ (.string ((rd_T56 l0 x7_1).f1)))).cell? _ = some _ from hx138_0)); (try have hy138_1 := fun (n_ : Nat) => (show ((((w901.drewN n_).setCell ⟨gb136, 0, none⟩ (.string ((rd_T56 l0 x7_1).f0))).setCell ⟨gb136, 1, none⟩ (.string ((rd_T56 l0 x7_1).f1)))).cell? _ = some _ from hx138_1)); clear hn138_0; clear hn138_1; replace p138 := eq_true p138; replace q138 := eq_true q138) | (go_at_call 95; (with_reducible refine (item_right.calls ((rd_T56 l0 x7_1).f0) ((rd_T56 l0 x7_1).f1) true _ A5.out).mono ?_); rintro e w' ⟨rfl, ⟨nd, rfl⟩⟩; (try first | exact ⟨rfl, _, World.drewN_drewN _ _ _⟩ | exact ⟨rfl, _, Eq.trans (World.drewN_drewN _ _ _) (congrArg (World.drewN _) (Nat.add_assoc _ _ _))⟩))); try go_wp2_with (first | ((with_reducible refine gate_dst (N := 4) rfl ?_); refine bx_ (N := 4) (cs := #[.string (⟨#[]⟩ : ByteArray), .string (⟨#[]⟩ : ByteArray)]) (t := 56) ?_; intro gb136 hg w901 hbox hb; have BK136 := ak_ (hbox); have GW136 := ge_ hg; have GE136 := ge_ hg; replace HB := hb_ hb; clear hb hbox hg; obtain ⟨hcz902_0, hcz902_1⟩ := cl2_ BK136; obtain ⟨hfz902_0, hfz902_1⟩ := fz2_ BK136) | (go_at_call 95; (with_reducible refine (item_right.calls ((rd_T56 l0 x7_1).f0) ((rd_T56 l0 x7_1).f1) true _ A5.out).mono ?_); rintro e w' ⟨rfl, ⟨nd, rfl⟩⟩; (try first | exact ⟨rfl, _, World.drewN_drewN _ _ _⟩ | exact ⟨rfl, _, Eq.trans (World.drewN_drewN _ _ _) (congrArg (World.drewN _) (Nat.add_assoc _ _ _))⟩); have p138 : 0 ≤ ((ji8) : Int) := of_decide_eq_true (by first | (with_reducible assumption) | assumption); have q138 : (ji8) < (l0.length : Int) := of_decide_eq_true (by first | (with_reducible assumption) | assumption); obtain ⟨ad138, e138, hx138_0, hx138_1⟩ := at_T56 HR0.out (ji8) p138 q138; obtain rfl : ad135 = ad138 := (by injection e138); have hn138_0 : ad135.block ≠ gb136 := Nat.ne_of_lt (Nat.lt_of_lt_of_le (by have := World.block_lt_of_cell? _ _ hx138_0; first | rwa [add_block] at this | exact this) GW136.out); have hn138_1 : ad135.block ≠ gb136 := Nat.ne_of_lt (Nat.lt_of_lt_of_le (by have := World.block_lt_of_cell? _ _ hx138_0; first | rwa [add_block] at this | exact this) GW136.out); replace hx138_0 := (HB.out.cell (World.block_lt_of_cell? w _ hx138_0)).trans hx138_0; replace hx138_1 := (HB.out.cell (World.block_lt_of_cell? w _ hx138_1)).trans hx138_1; replace hx138_0 := (cell_far (p := ⟨gb136, 0, none⟩) (by first | (rw [add_block]; exact hn138_0) | (show (Addr.add _ _).block ≠ _; rw [add_block]; exact hn138_0) | exact hn138_0) (.string ((rd_T56 l0 x7_1).f0))).trans hx138_0; replace hx138_1 := (cell_far (p := ⟨gb136, 0, none⟩) (by first | (rw [add_block]; exact hn138_0) | (show (Addr.add _ _).block ≠ _; rw [add_block]; exact hn138_0) | exact hn138_0) (.string ((rd_T56 l0 x7_1).f0))).trans hx138_1; replace hx138_0 := (cell_far (p := ⟨gb136, 1, none⟩) (by first | (rw [add_block]; exact hn138_1) | (show (Addr.add _ _).block ≠ _; rw [add_block]; exact hn138_1) | exact hn138_1) (.string ((rd_T56 l0 x7_1).f1))).trans hx138_0; replace hx138_1 := (cell_far (p := ⟨gb136, 1, none⟩) (by first | (rw [add_block]; exact hn138_1) | (show (Addr.add _ _).block ≠ _; rw [add_block]; exact hn138_1) | exact hn138_1) (.string ((rd_T56 l0 x7_1).f1))).trans hx138_1; (try have hy138_0 := fun (n_ : Nat) => (show ((((w901.drewN n_).setCell ⟨gb136, 0, none⟩ (.string ((rd_T56 l0 x7_1).f0))).setCell ⟨gb136, 1, none⟩ (.string ((rd_T56 l0 x7_1).f1)))).cell? _ = some _ from hx138_0)); (try have hy138_1 := fun (n_ : Nat) => (show ((((w901.drewN n_).setCell ⟨gb136, 0, none⟩ (.string ((rd_T56 l0 x7_1).f0))).setCell ⟨gb136, 1, none⟩ (.string ((rd_T56 l0 x7_1).f1)))).cell? _ = some _ from hx138_1)); clear hn138_0; clear hn138_1; replace p138 := eq_true p138; replace q138 := eq_true q138) | (go_at_call 95; (with_reducible refine (item_right.calls ((rd_T56 l0 x7_1).f0) ((rd_T56 l0 x7_1).f1) true _ A5.out).mono ?_); rintro e w' ⟨rfl, ⟨nd, rfl⟩⟩; (try first | exact ⟨rfl, _, World.drewN_drewN _ _ _⟩ | exact ⟨rfl, _, Eq.trans (World.drewN_drewN _ _ _) (congrArg (World.drewN _) (Nat.add_assoc _ _ _))⟩))))
    go_roundg k1
    case measure => have := HK1.out; omega
    case rel => exact ⟨(wrap64 (x7_1 + 1)), rfl, H', ⟨by have := HK1.out; omega⟩, ⟨bel_⟩⟩
   case n8_ | n4_ =>
    go_wp2_with (first | ((with_reducible refine gate_dst (N := 4) rfl ?_); refine bx_ (N := 4) (cs := #[.string (⟨#[]⟩ : ByteArray), .string (⟨#[]⟩ : ByteArray)]) (t := 56) ?_; intro gb136 hg w901 hbox hb; have BK136 := ak_ (hbox); have GW136 := ge_ hg; have GE136 := ge_ hg; replace HB := hb_ hb; clear hb hbox hg; obtain ⟨hcz902_0, hcz902_1⟩ := cl2_ BK136; obtain ⟨hfz902_0, hfz902_1⟩ := fz2_ BK136) | (go_at_call 95; (with_reducible refine (item_right.calls ((rd_T56 l0 x7_1).f0) ((rd_T56 l0 x7_1).f1) true _ A5.out).mono ?_); rintro e w' ⟨rfl, ⟨nd, rfl⟩⟩; (try first | exact ⟨rfl, _, World.drewN_drewN _ _ _⟩ | exact ⟨rfl, _, Eq.trans (World.drewN_drewN _ _ _) (congrArg (World.drewN _) (Nat.add_assoc _ _ _))⟩); have p138 : 0 ≤ ((ji8) : Int) := of_decide_eq_true (by first | (with_reducible assumption) | assumption); have q138 : (ji8) < (l0.length : Int) := of_decide_eq_true (by first | (with_reducible assumption) | assumption); obtain ⟨ad138, e138, hx138_0, hx138_1⟩ := at_T56 HR0.out (ji8) p138 q138; obtain rfl : ad135 = ad138 := (by injection e138); have hn138_0 : ad135.block ≠ gb136 := Nat.ne_of_lt (Nat.lt_of_lt_of_le (by have := World.block_lt_of_cell? _ _ hx138_0; first | rwa [add_block] at this | exact this) GW136.out); have hn138_1 : ad135.block ≠ gb136 := Nat.ne_of_lt (Nat.lt_of_lt_of_le (by have := World.block_lt_of_cell? _ _ hx138_0; first | rwa [add_block] at this | exact this) GW136.out); replace hx138_0 := (HB.out.cell (World.block_lt_of_cell? w _ hx138_0)).trans hx138_0; replace hx138_1 := (HB.out.cell (World.block_lt_of_cell? w _ hx138_1)).trans hx138_1; replace hx138_0 := (cell_far (p := ⟨gb136, 0, none⟩) (by first | (rw [add_block]; exact hn138_0) | (show (Addr.add _ _).block ≠ _; rw [add_block]; exact hn138_0) | exact hn138_0) (.string ((rd_T56 l0 x7_1).f0))).trans hx138_0; replace hx138_1 := (cell_far (p := ⟨gb136, 0, none⟩) (by first | (rw [add_block]; exact hn138_0) | (show (Addr.add _ _).block ≠ _; rw [add_block]; exact hn138_0) | exact hn138_0) (.string ((rd_T56 l0 x7_1).f0))).trans hx138_1; replace hx138_0 := (cell_far (p := ⟨gb136, 1, none⟩) (by first | (rw [add_block]; exact hn138_1) | (show (Addr.add _ _).block ≠ _; rw [add_block]; exact hn138_1) | exact hn138_1) (.string ((rd_T56 l0 x7_1).f1))).trans hx138_0; replace hx138_1 := (cell_far (p := ⟨gb136, 1, none⟩) (by first | (rw [add_block]; exact hn138_1) | (show (Addr.add _ _).block ≠ _; rw [add_block]; exact hn138_1) | exact hn138_1) (.string ((rd_T56 l0 x7_1).f1))).trans hx138_1; (try have hy138_0 := fun (n_ : Nat) => (show ((((w901.drewN n_).setCell ⟨gb136, 0, none⟩ (.string ((rd_T56 l0 x7_1).f0))).setCell ⟨gb136, 1, none⟩ (.string ((rd_T56 l0 x7_1).f1)))).cell? _ = some _ from hx138_0)); (try have hy138_1 := fun (n_ : Nat) => (show ((((w901.drewN n_).setCell ⟨gb136, 0, none⟩ (.string ((rd_T56 l0 x7_1).f0))).setCell ⟨gb136, 1, none⟩ (.string ((rd_T56 l0 x7_1).f1)))).cell? _ = some _ from hx138_1)); clear hn138_0; clear hn138_1; replace p138 := eq_true p138; replace q138 := eq_true q138) | (go_at_call 95; (with_reducible refine (item_right.calls ((rd_T56 l0 x7_1).f0) ((rd_T56 l0 x7_1).f1) false _ A5.out).mono ?_); rintro e w' ⟨rfl, ⟨nd, rfl⟩⟩; (try first | exact ⟨rfl, _, World.drewN_drewN _ _ _⟩ | exact ⟨rfl, _, Eq.trans (World.drewN_drewN _ _ _) (congrArg (World.drewN _) (Nat.add_assoc _ _ _))⟩)))
    repeat (go_quiet (first | ((with_reducible refine gate_dst (N := 4) rfl ?_); refine bx_ (N := 4) (cs := #[.string (⟨#[]⟩ : ByteArray), .string (⟨#[]⟩ : ByteArray)]) (t := 56) ?_; intro gb136 hg w901 hbox hb; have n0_ := ak_ (below_step bel_ hb); have n1_ := ak_ (hbox); have n2_ := ak_ ((by rw [hg]; exact (below_size bel_) : w.heap.size ≤ gb136)); have n3_ := ak_ ((by rw [hg]; exact (below_size bel_) : w.heap.size ≤ gb136)); clear HB; have HB := n0_; have BK136 := n1_; have GW136 := n2_; have GE136 := n3_; clear n0_ n1_ n2_ n3_; clear hb hbox hg; have hcz902_0 : w901.cell? ⟨gb136, 0, none⟩ = some (.string (⟨#[]⟩ : ByteArray)) := (blk_cell BK136.out 0).trans rfl; have hcz902_1 : w901.cell? ⟨gb136, 1, none⟩ = some (.string (⟨#[]⟩ : ByteArray)) := (blk_cell BK136.out 1).trans rfl; have hfz902_0 := blk_frozen BK136.out 0; have hfz902_1 := blk_frozen BK136.out 1) | (go_at_call 95; (with_reducible refine (item_right.calls ((rd_T56 l0 x7_1).f0) ((rd_T56 l0 x7_1).f1) true _ A5.out).mono ?_); rintro e w' ⟨rfl, ⟨nd, rfl⟩⟩; (try first | exact ⟨rfl, _, World.drewN_drewN _ _ _⟩ | exact ⟨rfl, _, Eq.trans (World.drewN_drewN _ _ _) (congrArg (World.drewN _) (Nat.add_assoc _ _ _))⟩); have p138 : 0 ≤ ((ji8) : Int) := of_decide_eq_true (by first | (with_reducible assumption) | assumption); have q138 : (ji8) < (l0.length : Int) := of_decide_eq_true (by first | (with_reducible assumption) | assumption); obtain ⟨ad138, e138, hx138_0, hx138_1⟩ := at_T56 HR0.out (ji8) p138 q138; obtain rfl : ad135 = ad138 := (by injection e138); have hn138_0 : ad135.block ≠ gb136 := Nat.ne_of_lt (Nat.lt_of_lt_of_le (by have := World.block_lt_of_cell? _ _ hx138_0; first | rwa [add_block] at this | exact this) GW136.out); have hn138_1 : ad135.block ≠ gb136 := Nat.ne_of_lt (Nat.lt_of_lt_of_le (by have := World.block_lt_of_cell? _ _ hx138_0; first | rwa [add_block] at this | exact this) GW136.out); replace hx138_0 := (HB.out.cell (World.block_lt_of_cell? w _ hx138_0)).trans hx138_0; replace hx138_1 := (HB.out.cell (World.block_lt_of_cell? w _ hx138_1)).trans hx138_1; replace hx138_0 := (cell_far (p := ⟨gb136, 0, none⟩) (by first | (rw [add_block]; exact hn138_0) | (show (Addr.add _ _).block ≠ _; rw [add_block]; exact hn138_0) | exact hn138_0) (.string ((rd_T56 l0 x7_1).f0))).trans hx138_0; replace hx138_1 := (cell_far (p := ⟨gb136, 0, none⟩) (by first | (rw [add_block]; exact hn138_0) | (show (Addr.add _ _).block ≠ _; rw [add_block]; exact hn138_0) | exact hn138_0) (.string ((rd_T56 l0 x7_1).f0))).trans hx138_1; replace hx138_0 := (cell_far (p := ⟨gb136, 1, none⟩) (by first | (rw [add_block]; exact hn138_1) | (show (Addr.add _ _).block ≠ _; rw [add_block]; exact hn138_1) | exact hn138_1) (.string ((rd_T56 l0 x7_1).f1))).trans hx138_0; replace hx138_1 := (cell_far (p := ⟨gb136, 1, none⟩) (by first | (rw [add_block]; exact hn138_1) | (show (Addr.add _ _).block ≠ _; rw [add_block]; exact hn138_1) | exact hn138_1) (.string ((rd_T56 l0 x7_1).f1))).trans hx138_1; (try have hy138_0 := fun (n_ : Nat) => (show ((((w901.drewN n_).setCell ⟨gb136, 0, none⟩ (.string ((rd_T56 l0 x7_1).f0))).setCell ⟨gb136, 1, none⟩ (.string ((rd_T56 l0 x7_1).f1)))).cell? _ = some _ from hx138_0)); (try have hy138_1 := fun (n_ : Nat) => (show ((((w901.drewN n_).setCell ⟨gb136, 0, none⟩ (.string ((rd_T56 l0 x7_1).f0))).setCell ⟨gb136, 1, none⟩ (.string ((rd_T56 l0 x7_1).f1)))).cell? _ = some _ from hx138_1)); clear hn138_0; clear hn138_1; replace p138 := eq_true p138; replace q138 := eq_true q138) | (go_at_call 95; (with_reducible refine (item_right.calls ((rd_T56 l0 x7_1).f0) ((rd_T56 l0 x7_1).f1) false _ A5.out).mono ?_); rintro e w' ⟨rfl, ⟨nd, rfl⟩⟩; (try first | exact ⟨rfl, _, World.drewN_drewN _ _ _⟩ | exact ⟨rfl, _, Eq.trans (World.drewN_drewN _ _ _) (congrArg (World.drewN _) (Nat.add_assoc _ _ _))⟩))); try go_wp2_with (first | ((with_reducible refine gate_dst (N := 4) rfl ?_); refine bx_ (N := 4) (cs := #[.string (⟨#[]⟩ : ByteArray), .string (⟨#[]⟩ : ByteArray)]) (t := 56) ?_; intro gb136 hg w901 hbox hb; have BK136 := ak_ (hbox); have GW136 := ge_ hg; have GE136 := ge_ hg; replace HB := hb_ hb; clear hb hbox hg; obtain ⟨hcz902_0, hcz902_1⟩ := cl2_ BK136; obtain ⟨hfz902_0, hfz902_1⟩ := fz2_ BK136) | (go_at_call 95; (with_reducible refine (item_right.calls ((rd_T56 l0 x7_1).f0) ((rd_T56 l0 x7_1).f1) true _ A5.out).mono ?_); rintro e w' ⟨rfl, ⟨nd, rfl⟩⟩; (try first | exact ⟨rfl, _, World.drewN_drewN _ _ _⟩ | exact ⟨rfl, _, Eq.trans (World.drewN_drewN _ _ _) (congrArg (World.drewN _) (Nat.add_assoc _ _ _))⟩); have p138 : 0 ≤ ((ji8) : Int) := of_decide_eq_true (by first | (with_reducible assumption) | assumption); have q138 : (ji8) < (l0.length : Int) := of_decide_eq_true (by first | (with_reducible assumption) | assumption); obtain ⟨ad138, e138, hx138_0, hx138_1⟩ := at_T56 HR0.out (ji8) p138 q138; obtain rfl : ad135 = ad138 := (by injection e138); have hn138_0 : ad135.block ≠ gb136 := Nat.ne_of_lt (Nat.lt_of_lt_of_le (by have := World.block_lt_of_cell? _ _ hx138_0; first | rwa [add_block] at this | exact this) GW136.out); have hn138_1 : ad135.block ≠ gb136 := Nat.ne_of_lt (Nat.lt_of_lt_of_le (by have := World.block_lt_of_cell? _ _ hx138_0; first | rwa [add_block] at this | exact this) GW136.out); replace hx138_0 := (HB.out.cell (World.block_lt_of_cell? w _ hx138_0)).trans hx138_0; replace hx138_1 := (HB.out.cell (World.block_lt_of_cell? w _ hx138_1)).trans hx138_1; replace hx138_0 := (cell_far (p := ⟨gb136, 0, none⟩) (by first | (rw [add_block]; exact hn138_0) | (show (Addr.add _ _).block ≠ _; rw [add_block]; exact hn138_0) | exact hn138_0) (.string ((rd_T56 l0 x7_1).f0))).trans hx138_0; replace hx138_1 := (cell_far (p := ⟨gb136, 0, none⟩) (by first | (rw [add_block]; exact hn138_0) | (show (Addr.add _ _).block ≠ _; rw [add_block]; exact hn138_0) | exact hn138_0) (.string ((rd_T56 l0 x7_1).f0))).trans hx138_1; replace hx138_0 := (cell_far (p := ⟨gb136, 1, none⟩) (by first | (rw [add_block]; exact hn138_1) | (show (Addr.add _ _).block ≠ _; rw [add_block]; exact hn138_1) | exact hn138_1) (.string ((rd_T56 l0 x7_1).f1))).trans hx138_0; replace hx138_1 := (cell_far (p := ⟨gb136, 1, none⟩) (by first | (rw [add_block]; exact hn138_1) | (show (Addr.add _ _).block ≠ _; rw [add_block]; exact hn138_1) | exact hn138_1) (.string ((rd_T56 l0 x7_1).f1))).trans hx138_1; (try have hy138_0 := fun (n_ : Nat) => (show ((((w901.drewN n_).setCell ⟨gb136, 0, none⟩ (.string ((rd_T56 l0 x7_1).f0))).setCell ⟨gb136, 1, none⟩ (.string ((rd_T56 l0 x7_1).f1)))).cell? _ = some _ from hx138_0)); (try have hy138_1 := fun (n_ : Nat) => (show ((((w901.drewN n_).setCell ⟨gb136, 0, none⟩ (.string ((rd_T56 l0 x7_1).f0))).setCell ⟨gb136, 1, none⟩ (.string ((rd_T56 l0 x7_1).f1)))).cell? _ = some _ from hx138_1)); clear hn138_0; clear hn138_1; replace p138 := eq_true p138; replace q138 := eq_true q138) | (go_at_call 95; (with_reducible refine (item_right.calls ((rd_T56 l0 x7_1).f0) ((rd_T56 l0 x7_1).f1) false _ A5.out).mono ?_); rintro e w' ⟨rfl, ⟨nd, rfl⟩⟩; (try first | exact ⟨rfl, _, World.drewN_drewN _ _ _⟩ | exact ⟨rfl, _, Eq.trans (World.drewN_drewN _ _ _) (congrArg (World.drewN _) (Nat.add_assoc _ _ _))⟩))))
    go_ret
    first | (exact ⟨by first | rfl | (simp [errW_none, errW_some] <;> rfl) | (simp only [← hji8]; first | rfl | (simp [errW_none, errW_some] <;> rfl)) | (simp [*, errW_none, errW_some] <;> rfl), bel_⟩) | (exact ⟨rfl, bel_⟩)
end Go.Proofs.YtpnmajblhgnkoaaGreat.Z
end

section
namespace Go.Proofs.YtpnmajblhgnkoaaGreat.Z
attribute [local go_sem ↓] Go.wp_at_zero Go.wp_at_succ
def VS.put1 (s : VS) (a : Int) (y : INd) : VS := { s with ino := fun c => if c = a then some y else s.ino c, n := s.n + 1 }
def VS.put2 (s : VS) (a : Int) (y : Int × Int) : VS := { s with up := fun c => if c = a then some y else s.up c, n := s.n + 1 }
def VS.add (s : VS) (x : KItm) : VS := { s with all := s.all ++ [x] }
def parseL (k : Nat) : List VIT → VS → Option (Option VS)
 | [], s => some (some s)
 | x :: r, s => (inode_Parse.f k x.f0).bind fun q => if q.2.2.2.2 = 0 then
   (if 0 ≤ q.2.1 ∧ q.2.1 < 4294967296 ∧ s.all.length < 4398046511104 then
    (if q.1 = 1 then (inode_Decode.f k x.f1).bind fun n => if n.2.2.2.2.2 = 0 then parseL k r ((s.add ⟨q.1, q.2.1, q.2.2.1, q.2.2.2.1, x.f1⟩).put1 q.2.1 ⟨n.1, n.2.1, n.2.2.1, n.2.2.2.1, n.2.2.2.2.1⟩) else some none
     else if q.1 = 2 then (dirs_number.f k x.f1).bind fun t => parseL k r ((s.add ⟨q.1, q.2.1, q.2.2.1, q.2.2.2.1, x.f1⟩).put2 t (wrap64 (((s.up t).getD (0, 0)).1 + 1), q.2.1))
     else parseL k r (s.add ⟨q.1, q.2.1, q.2.2.1, q.2.2.2.1, x.f1⟩)) else none) else some none
theorem parseL.mono : ∀ (l : List VIT) (s : VS) (k : Nat), LeO (parseL k l s) (parseL (k + 1) l s)
 | [], s, k => LeO.refl _
 | x :: r, s, k => by
  unfold parseL
  exact LeO.bind (inode_Parse.mono _ _) (fun q => LeO.ite (LeO.ite (LeO.ite (LeO.bind (inode_Decode.mono _ _) (fun n => LeO.ite (parseL.mono r _ k) (LeO.refl _))) (LeO.ite (LeO.bind (dirs_number.mono _ _) (fun t => parseL.mono r _ k)) (parseL.mono r _ k))) (LeO.none _)) (LeO.refl _))
def VS0 : VS := ⟨[], fun _ => none, fun _ => none, 0⟩
def parseF (k : Nat) (l : List VIT) : Option (Option VS) := (parseL k l VS0).bind fun o => match o with
 | none => some none
 | some s => (item_Check.f k l).bind fun c => if c = 0 ∧ ((s.ino 1).getD zI).kd = 1 then some (some s) else some none
theorem parseF.mono (l : List VIT) : ∀ k, LeO (parseF k l) (parseF (k + 1) l) := fun k => by
 unfold parseF
 refine LeO.bind (parseL.mono _ _ _) (fun o => ?_)
 cases o with
 | none => exact LeO.refl _
 | some s => exact LeO.bind (item_Check.mono _ _) (fun _ => LeO.refl _)
theorem info_kept : (Tryz.prog.info? 93).map (fun i => (i.zero, i.size, i.bytes)) = some (some (.agg #[.int .u8 0, .int .u32 0, .string ⟨#[]⟩, .int .u32 0, .string ⟨#[]⟩]), 5, 48) := by kernel_rfl
theorem VS0_ok : VS0.Ok := ⟨fun a q h => (by cases h), fun x h => (by cases h), by decide, by decide⟩
set_option maxRecDepth 100000 in
set_option maxHeartbeats 12800000 in
theorem parse_calls (k : Nat) (g : Nat) (A : Option Addr) (c : Nat) (l : List VIT) (d m sm : Int) (o : Option VS) (w : World) (hb : w.heap[g]? = some (volO (.slice A l.length c) (.slice none 0 0) (.map none) (.map none) d m sm false)) (hF : ∀ W', KeepBut w W' g none → Kd.C k56 W' A l.length l) (hc : l.length ≤ c) (h : parseF k l = some o) :
  Calls Tryz.prog 59 #[.pointer (some ⟨g, 0, none⟩)] w fun e w' => e = .returned (.bool o.isSome) ∧ Fr g w w' ∧ (∀ s, o = some s → VolR w' g w.heap.size (.slice A l.length c) d m sm false s) ∧ ∃ va vi vu, w'.heap[g]? = some (volO (.slice A l.length c) va vi vu d m sm false) := by
 have hlt := blk_lt hb
 unfold parseF at h
 obtain ⟨po, hpo, h⟩ := Option.bind_eq_some_iff.mp h
 have HPO := ak_ hpo
 have HO := ak_ h
 have HF := ak_ hF
 have HCC := ak_ hc
 have HLT := ak_ hlt
 have HB := ak_ hb
 have HMX := ak_ (Kd.C_max (hF w (KeepBut.refl _ _ _)))
 have c6 : w.cell? ⟨g, 6, none⟩ = some (.map none) := (blk_cell hb 6).trans rfl
 clear hpo h hF hc hlt hb c6
 go_enter Tryz.func59, Tryz.ntmps59
 go_wp2_with (first
  | ((with_reducible refine gate_dst (N := 12) rfl ?_); refine map_event (k := 24) rfl 83 rfl ?_; intro bi hbi w1 hm1 hb1; have M1 := ak_ hm1; have B1 := ak_ hb1; have GI := ak_ (show w.heap.size ≤ bi by omega); clear hm1 hb1 hbi)
  | ((with_reducible refine gate_dst (N := 13) rfl ?_); refine map_event (k := 24) rfl 84 rfl ?_; intro bu hbu w2 hm2 hb2; have M2 := ak_ hm2; have B2 := ak_ (below_step B1.out hb2); have N1 := ak_ (M1.out.below hb2); have GU := ak_ (show w.heap.size ≤ bu by have := B1.out.size; omega); have NE := ak_ (show bi ≠ bu by have := M1.out.lt; omega); have G2 := ak_ (blk_below HB.out B2.out); have c6 : w2.cell? ⟨g, 6, none⟩ = some (.map none) := (blk_cell G2.out 6).trans rfl; have c7 : (w2.setCell ⟨g, 6, none⟩ (.map (some bi))).cell? ⟨g, 7, none⟩ = some (.map none) := (blk_cell (blk_set G2.out 6 (.map (some bi))) 7).trans rfl; have f6 : w2.frozen? ⟨g, 6, none⟩ = false := blk_frozen G2.out 6; have f7 : w2.frozen? ⟨g, 7, none⟩ = false := blk_frozen G2.out 7; have c0 : ((w2.setCell ⟨g, 6, none⟩ (.map (some bi))).setCell ⟨g, 7, none⟩ (.map (some bu))).cell? ⟨g, 0, none⟩ = some (.slice A l.length c) := (blk_cell (blk_set (blk_set G2.out 6 (.map (some bi))) 7 (.map (some bu))) 0).trans rfl; clear hm2 hb2 hbu))
 have GN := ak_ (show bi ≠ g ∧ bu ≠ g by have := GI.out; have := GU.out; have := HLT.out; omega)
 have V3 := ak_ (show VolR ((w2.setCell ⟨g, 6, none⟩ (.map (some bi))).setCell ⟨g, 7, none⟩ (.map (some bu))) g w.heap.size (.slice A l.length c) d m sm false VS0 from
  ⟨.slice none 0 0, bi, bu, blk_set (blk_set G2.out 6 _) 7 _, Kd.R_nil _ _ _ _ _, (N1.out.move ((Below.heap_setCell _ ⟨g, 7, none⟩ _ bi GN.out.1).trans (Below.heap_setCell _ ⟨g, 6, none⟩ _ bi GN.out.1))).congr (fun _ => rfl), (M2.out.move ((Below.heap_setCell _ ⟨g, 7, none⟩ _ bu GN.out.2).trans (Below.heap_setCell _ ⟨g, 6, none⟩ _ bu GN.out.2))).congr (fun _ => rfl), GI.out, GU.out, NE.out, HLT.out, VS0_ok⟩)
 have F3 := ak_ (show Fr g w ((w2.setCell ⟨g, 6, none⟩ (.map (some bi))).setCell ⟨g, 7, none⟩ (.map (some bu))) from ((Fr.of_below B2.out).setg 6 _).setg 7 _)
 generalize ((w2.setCell ⟨g, 6, none⟩ (.map (some bi))).setCell ⟨g, 7, none⟩ (.map (some bu))) = w3 at V3 F3 c0 ⊢
 clear c0 c6 c7 f6 f7 M1 B1 M2 B2 N1 G2 HB GI GU NE GN
 go_loopw [23] (fun vi wr => ∃ (i : Int) (s : VS), vi = .int .i64 i ∧ Aside0 (0 ≤ i ∧ i ≤ l.length) ∧ Aside0 (VolR wr g w.heap.size (.slice A l.length c) d m sm false s) ∧ Aside0 (Fr g w wr) ∧ Aside0 (parseL k (l.drop i.toNat) s = some po)) (fun vi _ => l.length - (intOf vi).toNat)
 case atStart => exact ⟨0, VS0, rfl, ⟨by omega⟩, V3, F3, HPO⟩
 case round =>
  obtain ⟨i, s, rfl, HI, HV, HFR, HP⟩ := hrel
  obtain ⟨hi0, hi1⟩ := HI.out
  by_cases hlt : i < (l.length : Int)
  ·have hlt2 : decide (i < (l.length : Int)) = true := decide_eq_true hlt
   have p0 := eq_true hi0
   have p1 := eq_true hlt
   obtain ⟨x, hx⟩ : ∃ x, x = rd_T56 l i := ⟨_, rfl⟩
   obtain ⟨ad, hAd, k0, k1⟩ := at_T56 (HF.out wr HFR.out.1) i hi0 hlt
   subst hAd
   rw [← hx] at k0 k1
   have hR0 := HP.out
   rw [drop_IT hi0 hlt, ← hx, parseL] at hR0
   obtain ⟨⟨q1, q2, q3, q4, q5⟩, hpa, hR⟩ := Option.bind_eq_some_iff.mp hR0
   clear hR0
   simp only at hR
   have HPA := ak_ hpa
   have ew : wrap64 (i + 1) = i + 1 := by have := HMX.out; unfold wrap64; omega
   have EW := ak_ ew
   have LT := ak_ hlt
   clear hpa hlt hi0 hi1 ew hx
   by_cases h5 : q5 = 0
   ·rw [if_pos h5] at hR
    subst h5
    split at hR
    case isFalse => cases hR
    case isTrue hq =>
    have HQ := ak_ hq
    have HRR := ak_ hR
    clear hR hq
    go_wp2_with (first
     | ((with_reducible refine gate_dst (N := 4) rfl ?_); refine var_event (N := 4) (T := 56) (n := 2) (zc := #[.string ⟨#[]⟩, .string ⟨#[]⟩]) (cs := #[.string x.f0, .string x.f1]) rfl rfl rfl (.tmp 26) rfl rfl ?hr (by kernel_rfl) rfl rfl rfl ?hx ?hN ?_; (case hx => intro p_; rfl); (case hN => intro p_; rfl); (case hr => first | (go_simp; done) | (go_simp; rfl)); intro gx hgx w4 hx4 hb4; have X4 := ak_ hx4; have B4 := ak_ hb4; have y0 : w4.cell? ⟨gx, 0, none⟩ = some (.string x.f0) := (blk_cell X4.out 0).trans rfl; clear hx4 hb4 hgx k0 k1)
     | (go_at_call 78; refine (inode_Parse.calls k x.f0 q1 q2 q3 q4 0 _ HPA.out).mono ?_; rintro e w5 ⟨rfl, hb5⟩; have X5 := ak_ (blk_below X4.out hb5); have B5 := ak_ (below_step B4.out hb5); clear hb5 y0)
     | ((with_reducible refine gate_dst (N := 5) rfl ?_); refine var_event (N := 5) (T := 59) (n := 4) (zc := #[.int .u8 0, .int .u32 0, .string ⟨#[]⟩, .int .u32 0]) (cs := #[.int .u8 q1, .int .u32 q2, .string q3, .int .u32 q4]) rfl rfl rfl (.tmp 31) rfl rfl ?hr (by kernel_rfl) rfl rfl rfl ?hx ?hN ?_; (case hx => intro p_; rfl); (case hN => intro p_; rfl); (case hr => first | (go_simp; done) | (go_simp; rfl)); intro gk hgk w6 hx6 hb6; have K6 := ak_ hx6; have X6 := ak_ (blk_below X5.out hb6); have B6 := ak_ (below_step B5.out hb6); clear hx6 hb6 hgk))
    have hv := HV.out.below B6.out
    obtain ⟨va, bi2, bu2, hG, hA, hI, hU, hbi, hbu, hne, hgb, hok⟩ := hv
    obtain ⟨A0, c0, rfl⟩ := Kd.R_slice hA
    have G6 := ak_ hG
    have A6 := ak_ hA
    have I6 := ak_ hI
    have U6 := ak_ hU
    have HBI := ak_ (And.intro hbi hbu)
    have HNE := ak_ hne
    have HGB := ak_ hgb
    have HOK := ak_ hok
    have D6 := ak_ (show Below w6.heap.size w6 w6.drew from below_drew1 (Below.refl _ _))
    clear hG hA hI hU hbi hbu hne hgb hok
    refine start_ (n := 14) (S := (fun w' => w'.cell? ⟨g, 5, none⟩ = some (.slice A0 s.all.length c0) ∧ w'.cell? ⟨gk, 0, none⟩ = some (.int .u8 q1) ∧ w'.cell? ⟨gk, 1, none⟩ = some (.int .u32 q2) ∧ w'.cell? ⟨gk, 2, none⟩ = some (.string q3) ∧ w'.cell? ⟨gk, 3, none⟩ = some (.int .u32 q4) ∧ w'.cell? ⟨gx, 1, none⟩ = some (.string x.f1))) (ds := [13]) #[false, false, false, false, false, false, false, false, false, false, false, false, false, false] (by kernel_rfl) rfl rfl ⟨(blk_cell (blk_below G6.out D6.out) 5).trans rfl, (blk_cell (blk_below K6.out D6.out) 0).trans rfl, (blk_cell (blk_below K6.out D6.out) 1).trans rfl, (blk_cell (blk_below K6.out D6.out) 2).trans rfl, (blk_cell (blk_below K6.out D6.out) 3).trans rfl, (blk_cell (blk_below X6.out D6.out) 1).trans rfl⟩ (fun hHeld => ?_)
    refine pure_ (i := 0) (N := some 35) (v := ?_) (a' := ?_) #[true, false, false, false, false, false, false, false, false, false, false, false, false, false] rfl rfl (by kernel_rfl) (fun _ _ _ h => h) (Or.inl ⟨by rfl, ?_⟩) ?_ ?_
    rotate_left
    ·intro w'
     go_simp
     with_reducible rfl
    rotate_left
    ·simp only [Act.put, List.setIfInBounds_toArray, List.set_cons_zero, List.set_cons_succ, i64_w, i32_w]
     rfl
    refine pure_ (i := 1) (N := some 36) (v := ?_) (a' := ?_) #[true, true, false, false, false, false, false, false, false, false, false, false, false, false] rfl rfl (by kernel_rfl) (fun _ _ _ h => h) (Or.inl ⟨by rfl, ?_⟩) ?_ ?_
    rotate_left
    ·intro w'
     go_simp
     with_reducible rfl
    rotate_left
    ·simp only [Act.put, List.setIfInBounds_toArray, List.set_cons_zero, List.set_cons_succ, i64_w, i32_w]
     rfl
    refine pure_ (i := 2) (N := some 37) (v := ?_) (a' := ?_) #[true, true, true, false, false, false, false, false, false, false, false, false, false, false] rfl rfl (by kernel_rfl) (fun _ _ _ h => h) (Or.inl ⟨by rfl, ?_⟩) ?_ ?_
    rotate_left
    ·intro w'
     go_simp
     with_reducible rfl
    rotate_left
    ·simp only [Act.put, List.setIfInBounds_toArray, List.set_cons_zero, List.set_cons_succ, i64_w, i32_w]
     rfl
    refine pure_ (i := 3) (N := some 38) (v := ?_) (a' := ?_) #[true, true, true, true, false, false, false, false, false, false, false, false, false, false] rfl rfl (by kernel_rfl) (fun _ _ _ h => h) (Or.inl ⟨by rfl, ?_⟩) ?_ ?_
    rotate_left
    ·intro w'
     go_simp
     with_reducible rfl
    rotate_left
    ·simp only [Act.put, List.setIfInBounds_toArray, List.set_cons_zero, List.set_cons_succ, i64_w, i32_w]
     rfl
    refine take_ (i := 4) (N := some 39) (v := ?_) (a' := ?_) #[true, true, true, true, true, false, false, false, false, false, false, false, false, false] rfl rfl (by kernel_rfl) (fun _ _ _ h => h) (Or.inl ⟨by rfl, ?_⟩) hHeld ?_ ?_
    rotate_left
    ·rintro w' ⟨s0, s1, s2, s3, s4, s5⟩
     go_simp
     with_reducible rfl
    rotate_left
    ·simp only [Act.put, List.setIfInBounds_toArray, List.set_cons_zero, List.set_cons_succ, i64_w, i32_w]
     rfl
    refine take_ (i := 5) (N := some 40) (v := ?_) (a' := ?_) #[true, true, true, true, true, true, false, false, false, false, false, false, false, false] rfl rfl (by kernel_rfl) (fun _ _ _ h => h) (Or.inl ⟨by rfl, ?_⟩) hHeld ?_ ?_
    rotate_left
    ·rintro w' ⟨s0, s1, s2, s3, s4, s5⟩
     go_simp
     with_reducible rfl
    rotate_left
    ·simp only [Act.put, List.setIfInBounds_toArray, List.set_cons_zero, List.set_cons_succ, i64_w, i32_w]
     rfl
    refine pure_ (i := 6) (N := some 41) (v := ?_) (a' := ?_) #[true, true, true, true, true, true, true, false, false, false, false, false, false, false] rfl rfl (by kernel_rfl) (fun _ _ _ h => h) (Or.inl ⟨by rfl, ?_⟩) ?_ ?_
    rotate_left
    ·intro w'
     go_simp
     with_reducible rfl
    rotate_left
    ·simp only [Act.put, List.setIfInBounds_toArray, List.set_cons_zero, List.set_cons_succ, i64_w, i32_w]
     rfl
    refine take_ (i := 7) (N := some 42) (v := ?_) (a' := ?_) #[true, true, true, true, true, true, true, true, false, false, false, false, false, false] rfl rfl (by kernel_rfl) (fun _ _ _ h => h) (Or.inl ⟨by rfl, ?_⟩) hHeld ?_ ?_
    rotate_left
    ·rintro w' ⟨s0, s1, s2, s3, s4, s5⟩
     go_simp
     with_reducible rfl
    rotate_left
    ·simp only [Act.put, List.setIfInBounds_toArray, List.set_cons_zero, List.set_cons_succ, i64_w, i32_w]
     rfl
    refine pure_ (i := 8) (N := some 43) (v := ?_) (a' := ?_) #[true, true, true, true, true, true, true, true, true, false, false, false, false, false] rfl rfl (by kernel_rfl) (fun _ _ _ h => h) (Or.inl ⟨by rfl, ?_⟩) ?_ ?_
    rotate_left
    ·intro w'
     go_simp
     with_reducible rfl
    rotate_left
    ·simp only [Act.put, List.setIfInBounds_toArray, List.set_cons_zero, List.set_cons_succ, i64_w, i32_w]
     rfl
    refine one_ (i := 9) (N := some 44) #[true, true, true, true, true, true, true, true, true, true, false, false, false, false] rfl rfl (by kernel_rfl) (by decide) (fun K hK => ?_)
    refine Kd.R_lit_step kKept (w0 := w6.drew) w6.drew.heap.size 93 (by rfl) (N := 44) rfl (xs := [(⟨q1, q2, q3, q4, x.f1⟩ : KItm)]) (inner := [.int .u8 q1, .int .u32 q2, .string q3, .int .u32 q4, .string x.f1]) (ok := fun _ => True) (okp := fun _ => True) (by first | (go_simp; done) | (go_simp; rfl)) (Reps.c5 (kKept_mkM _ _ _ (⟨q1, q2, q3, q4, x.f1⟩ : KItm)) (Reps.none _ _)) (fun _ hk => hk) trivial (Below.refl _ _) (Nat.le_refl _) (by simp) ?_
    intro v8 w8 ho hb hg_ hnew_
    have R8 := ak_ ho
    have B8 := ak_ (show Below w6.heap.size w6 w8 from below_then D6.out D6.out.size hb)
    obtain ⟨A8, c8, rfl⟩ := Kd.R_slice ho
    clear ho hb hg_ hnew_
    refine hK.out _ _ ⟨(blk_cell (blk_below G6.out B8.out) 5).trans rfl, (blk_cell (blk_below K6.out B8.out) 0).trans rfl, (blk_cell (blk_below K6.out B8.out) 1).trans rfl, (blk_cell (blk_below K6.out B8.out) 2).trans rfl, (blk_cell (blk_below K6.out B8.out) 3).trans rfl, (blk_cell (blk_below X6.out B8.out) 1).trans rfl⟩ (fun hHeld => ?_)
    clear hK K
    refine norm_ (a' := ?_) ?_ ?_
    rotate_left
    ·show Act.put _ (some 44) _ = _
     simp only [Act.put, List.setIfInBounds_toArray, List.set_cons_zero, List.set_cons_succ, i64_w, i32_w]
     rfl
    refine one_ (i := 10) (N := some 45) #[true, true, true, true, true, true, true, true, true, true, true, false, false, false] rfl rfl (by kernel_rfl) (by decide) (fun K hK => ?_)
    refine append_wide_step (d := kKept) (fun h => h) w.heap.size (by rfl) (.tmp 39) (.tmp 44) 82 93 (.agg #[.int .u8 0, .int .u32 0, .string ⟨#[]⟩, .int .u32 0, .string ⟨#[]⟩]) 48 rfl Tryz.underlying82 info_kept rfl (by decide) (.slice A0 s.all.length c0) s.all [(⟨q1, q2, q3, q4, x.f1⟩ : KItm)] _ _ _ rfl rfl (Kd.R_below A6.out B8.out) (Kd.R_reads' R8.out).2.2 (Nat.le_trans HFR.out.size (Nat.le_trans B6.out.size B8.out.size)) (by have := HQ.out.2.2; simp; omega) (by have := HQ.out.2.2; unfold maxLen; simp; omega) ?_
    intro v9 w9 ho hg
    have R9 := ak_ ho
    have GR := ak_ hg
    have G9 := ak_ (blk_grown (blk_below G6.out B8.out) hg (row_low (Kd.R_below A6.out B8.out) HGB.out))
    have K9 := ak_ (blk_grown (blk_below K6.out B8.out) hg (Kd.R_ne (Kd.R_below A6.out B8.out) (blk_below K6.out B8.out) (by decide)))
    have X9 := ak_ (blk_grown (blk_below X6.out B8.out) hg (Kd.R_ne (Kd.R_below A6.out B8.out) (blk_below X6.out B8.out) (by decide)))
    clear ho hg
    refine hK.out _ _ ⟨(blk_cell G9.out 5).trans rfl, (blk_cell K9.out 0).trans rfl, (blk_cell K9.out 1).trans rfl, (blk_cell K9.out 2).trans rfl, (blk_cell K9.out 3).trans rfl, (blk_cell X9.out 1).trans rfl⟩ (fun hHeld => ?_)
    clear hK K
    refine norm_ (a' := ?_) ?_ ?_
    rotate_left
    ·show Act.put _ (some 45) _ = _
     simp only [Act.put, List.setIfInBounds_toArray, List.set_cons_zero, List.set_cons_succ, i64_w, i32_w]
     rfl
    obtain ⟨A9, c9, hv9⟩ := Kd.R_slice R9.out
    obtain ⟨n9, hn9⟩ : ∃ n9, n9 = (s.all ++ [(⟨q1, q2, q3, q4, x.f1⟩ : KItm)]).length := ⟨_, rfl⟩
    rw [← hn9] at hv9
    subst hv9
    clear hn9
    have f5 : w9.frozen? ⟨g, 5, none⟩ = false := blk_frozen G9.out 5
    refine pure_ (i := 11) (N := some 46) (v := ?_) (a' := ?_) #[true, true, true, true, true, true, true, true, true, true, true, true, false, false] rfl rfl (by kernel_rfl) (fun _ _ _ h => h) (Or.inl ⟨by rfl, ?_⟩) ?_ ?_
    rotate_left
    ·intro w'
     go_simp
     with_reducible rfl
    rotate_left
    ·simp only [Act.put, List.setIfInBounds_toArray, List.set_cons_zero, List.set_cons_succ, i64_w, i32_w]
     rfl
    refine pure_ (i := 12) (N := some 47) (v := ?_) (a' := ?_) #[true, true, true, true, true, true, true, true, true, true, true, true, true, false] rfl rfl (by kernel_rfl) (fun _ _ _ h => h) (Or.inl ⟨by rfl, ?_⟩) ?_ ?_
    rotate_left
    ·intro w'
     go_simp
     with_reducible rfl
    rotate_left
    ·simp only [Act.put, List.setIfInBounds_toArray, List.set_cons_zero, List.set_cons_succ, i64_w, i32_w]
     rfl
    refine last_ (i := 13) (N := none) #[true, true, true, true, true, true, true, true, true, true, true, true, true, true] rfl rfl (by kernel_rfl) (by decide) (fun K hK => ?_)
    refine skip_ (w1 := ?_) (by rfl) rfl ?_ ?_
    rotate_left
    ·go_simp
     rfl
    refine hK.out _ _ ?_
    clear hK K
    refine done_ (by kernel_rfl) ?_
    have V10 := ak_ (VolR.push (x := (⟨q1, q2, q3, q4, x.f1⟩ : KItm)) (blk_below G6.out B8.out) (Kd.R_below A6.out B8.out) (I6.out.below B8.out) (U6.out.below B8.out) HBI.out.1 HBI.out.2 HNE.out HGB.out HOK.out R9.out GR.out ⟨HQ.out.1, HQ.out.2.1⟩ HQ.out.2.2)
    have F10 := ak_ ((((HFR.out.below B6.out).below B8.out).grown GR.out (row_base A6.out)).setg 5 (.slice A9 n9 c9))
    have K10 := ak_ (blk_far (p := ⟨g, 5, none⟩) K9.out (blk_ne K9.out G9.out (by decide)) (.slice A9 n9 c9))
    have X10 := ak_ (blk_far (p := ⟨g, 5, none⟩) X9.out (blk_ne X9.out G9.out (by decide)) (.slice A9 n9 c9))
    clear hHeld f5 G6 A6 I6 U6 B8 R8 GR R9 K9 X9 G9 K6 X6 X4 X5 B4 B5 D6 HPA V3 F3
    generalize w9.setCell ⟨g, 5, none⟩ (.slice A9 n9 c9) = w10 at V10 F10 K10 X10 ⊢
    have y0 : w10.cell? ⟨gk, 0, none⟩ = some (.int .u8 q1) := (blk_cell K10.out 0).trans rfl
    have HLN := ak_ (show s.n + 1 ≤ (s.add (⟨q1, q2, q3, q4, x.f1⟩ : KItm)).all.length ∧ s.n < maxLen by have := HOK.out.2.2.2; have := HQ.out.2.2; unfold maxLen; simp [VS.add]; omega)
    have hR := HRR.out
    clear HRR
    by_cases k1 : q1 = 1
    ·rw [if_pos k1] at hR
     subst k1
     obtain ⟨⟨n1, n2, n3, n4, n5, n6⟩, hn, hR⟩ := Option.bind_eq_some_iff.mp hR
     simp only at hR
     have HN := ak_ hn
     have y1 : w10.cell? ⟨gx, 1, none⟩ = some (.string x.f1) := (blk_cell X10.out 1).trans rfl
     clear hn
     by_cases h6 : n6 = 0
     ·rw [if_pos h6] at hR
      subst h6
      have HRR := ak_ hR
      clear hR
      go_wp2_with (first
       | (go_at_call 79; refine (inode_Decode.calls k x.f1 n1 n2 n3 n4 n5 0 _ HN.out).mono ?_; rintro e w11 ⟨rfl, hb11⟩; have B11 := ak_ hb11; clear hb11 y0 y1)
       | ((with_reducible refine gate_dst (N := 7) rfl ?_); refine var_event (N := 7) (T := 31) (n := 5) (zc := #[.int .u8 0, .int .u16 0, .int .u32 0, .int .u32 0, .string ⟨#[]⟩]) (cs := #[.int .u8 n1, .int .u16 n2, .int .u32 n3, .int .u32 n4, .string n5]) rfl rfl rfl (.tmp 56) rfl rfl ?hr (by kernel_rfl) rfl rfl rfl ?hx ?hN ?_; (case hx => intro p_; rfl); (case hN => intro p_; rfl); (case hr => first | (go_simp; done) | (go_simp; rfl)); intro gn hgn w12 hx12 hb12; have N12 := ak_ hx12; have B12 := ak_ (below_step B11.out hb12); clear hx12 hb12 hgn))
      have hv := V10.out.below B12.out
      obtain ⟨va, bi3, bu3, hG, hA, hI, hU, hbi, hbu, hne, hgb, hok⟩ := hv
      have G12 := ak_ hG
      have A12 := ak_ hA
      have I12 := ak_ hI
      have U12 := ak_ hU
      have HB12 := ak_ (And.intro hbi hbu)
      have HNE12 := ak_ hne
      have HOK12 := ak_ hok
      have K12 := ak_ (blk_below K10.out B12.out)
      clear hG hA hI hU hbi hbu hne hgb hok
      refine start_ (n := 8) (S := (fun w' => w'.cell? ⟨g, 6, none⟩ = some (.map (some bi3)) ∧ w'.cell? ⟨gk, 1, none⟩ = some (.int .u32 q2) ∧ w'.cell? ⟨gn, 0, none⟩ = some (.int .u8 n1) ∧ w'.cell? ⟨gn, 1, none⟩ = some (.int .u16 n2) ∧ w'.cell? ⟨gn, 2, none⟩ = some (.int .u32 n3) ∧ w'.cell? ⟨gn, 3, none⟩ = some (.int .u32 n4) ∧ w'.cell? ⟨gn, 4, none⟩ = some (.string n5))) (ds := [7]) #[false, false, false, false, false, false, false, false] (by kernel_rfl) rfl rfl ⟨(blk_cell (blk_below G12.out (show Below w12.heap.size w12 w12.drew from below_drew1 (Below.refl _ _))) 6).trans rfl, (blk_cell (blk_below K12.out (show Below w12.heap.size w12 w12.drew from below_drew1 (Below.refl _ _))) 1).trans rfl, (blk_cell (blk_below N12.out (show Below w12.heap.size w12 w12.drew from below_drew1 (Below.refl _ _))) 0).trans rfl, (blk_cell (blk_below N12.out (show Below w12.heap.size w12 w12.drew from below_drew1 (Below.refl _ _))) 1).trans rfl, (blk_cell (blk_below N12.out (show Below w12.heap.size w12 w12.drew from below_drew1 (Below.refl _ _))) 2).trans rfl, (blk_cell (blk_below N12.out (show Below w12.heap.size w12 w12.drew from below_drew1 (Below.refl _ _))) 3).trans rfl, (blk_cell (blk_below N12.out (show Below w12.heap.size w12 w12.drew from below_drew1 (Below.refl _ _))) 4).trans rfl⟩ (fun hHeld => ?_)
      refine pure_ (i := 0) (N := some 60) (v := ?_) (a' := ?_) #[true, false, false, false, false, false, false, false] rfl rfl (by kernel_rfl) (fun _ _ _ h => h) (Or.inl ⟨by rfl, ?_⟩) ?_ ?_
      rotate_left
      ·intro w'
       go_simp
       with_reducible rfl
      rotate_left
      ·simp only [Act.put, List.setIfInBounds_toArray, List.set_cons_zero, List.set_cons_succ, i64_w, i32_w]
       rfl
      refine pure_ (i := 1) (N := some 61) (v := ?_) (a' := ?_) #[true, true, false, false, false, false, false, false] rfl rfl (by kernel_rfl) (fun _ _ _ h => h) (Or.inl ⟨by rfl, ?_⟩) ?_ ?_
      rotate_left
      ·intro w'
       go_simp
       with_reducible rfl
      rotate_left
      ·simp only [Act.put, List.setIfInBounds_toArray, List.set_cons_zero, List.set_cons_succ, i64_w, i32_w]
       rfl
      refine pure_ (i := 2) (N := some 62) (v := ?_) (a' := ?_) #[true, true, true, false, false, false, false, false] rfl rfl (by kernel_rfl) (fun _ _ _ h => h) (Or.inl ⟨by rfl, ?_⟩) ?_ ?_
      rotate_left
      ·intro w'
       go_simp
       with_reducible rfl
      rotate_left
      ·simp only [Act.put, List.setIfInBounds_toArray, List.set_cons_zero, List.set_cons_succ, i64_w, i32_w]
       rfl
      refine take_ (i := 3) (N := some 63) (v := ?_) (a' := ?_) #[true, true, true, true, false, false, false, false] rfl rfl (by kernel_rfl) (fun _ _ _ h => h) (Or.inl ⟨by rfl, ?_⟩) hHeld ?_ ?_
      rotate_left
      ·rintro w' ⟨s0, s1, s2, s3, s4, s5, s6⟩
       go_simp
       with_reducible rfl
      rotate_left
      ·simp only [Act.put, List.setIfInBounds_toArray, List.set_cons_zero, List.set_cons_succ, i64_w, i32_w]
       rfl
      refine pure_ (i := 4) (N := some 64) (v := ?_) (a' := ?_) #[true, true, true, true, true, false, false, false] rfl rfl (by kernel_rfl) (fun _ _ _ h => h) (Or.inl ⟨by rfl, ?_⟩) ?_ ?_
      rotate_left
      ·intro w'
       go_simp
       with_reducible rfl
      rotate_left
      ·simp only [Act.put, List.setIfInBounds_toArray, List.set_cons_zero, List.set_cons_succ, i64_w, i32_w]
       rfl
      refine take_ (i := 5) (N := some 65) (v := ?_) (a' := ?_) #[true, true, true, true, true, true, false, false] rfl rfl (by kernel_rfl) (fun _ _ _ h => h) (Or.inl ⟨by rfl, ?_⟩) hHeld ?_ ?_
      rotate_left
      ·rintro w' ⟨s0, s1, s2, s3, s4, s5, s6⟩
       go_simp
       with_reducible rfl
      rotate_left
      ·simp only [Act.put, List.setIfInBounds_toArray, List.set_cons_zero, List.set_cons_succ, i64_w, i32_w]
       rfl
      refine take_ (i := 6) (N := some 66) (v := ?_) (a' := ?_) #[true, true, true, true, true, true, true, false] rfl rfl (by kernel_rfl) (fun _ _ _ h => h) (Or.inl ⟨by rfl, ?_⟩) hHeld ?_ ?_
      rotate_left
      ·rintro w' ⟨s0, s1, s2, s3, s4, s5, s6⟩
       go_simp
       with_reducible rfl
      rotate_left
      ·simp only [Act.put, List.setIfInBounds_toArray, List.set_cons_zero, List.set_cons_succ, i64_w, i32_w]
       rfl
      refine last_ (i := 7) (N := none) #[true, true, true, true, true, true, true, true] rfl rfl (by kernel_rfl) (by decide) (fun K hK => ?_)
      refine map_store_step (k := 24) (by rfl) (.tmp 63) (.tmp 65) (.tmp 66) 83 31 rfl rfl Tryz.underlying24 Tryz.underlying83 rfl (I12.out.move rfl : MapF Tryz.prog 24 w12.drew bi3 _ _) HLN.out.2 q2 rfl (u32wf ⟨HQ.out.1, HQ.out.2.1⟩) (inoV ⟨n1, n2, n3, n4, n5⟩) rfl ?_
      intro w13 hm13 hg13
      have V13 := ak_ (show VolR w13 g w.heap.size (.slice (some ad) l.length c) d m sm false ((s.add (⟨1, q2, q3, q4, x.f1⟩ : KItm)).put1 q2 ⟨n1, n2, n3, n4, n5⟩) from VolR.stI (w := w12.drew) (va := va) (bi := bi3) (bu := bu3) (v' := va) (s := s.add (⟨1, q2, q3, q4, x.f1⟩ : KItm)) G12.out (Kd.R_below A12.out (show Below w12.heap.size w12 w12.drew from below_drew1 (Below.refl _ _))) (I12.out.move rfl) (U12.out.move rfl) HB12.out.1 HB12.out.2 HNE12.out HGB.out HOK12.out hm13 hg13 HLN.out.1)
      have F13 := ak_ (show Fr g w w13 from ((F10.out.below B12.out).below (show Below w12.heap.size w12 w12.drew from below_drew1 (Below.refl _ _))).grown hg13 (fun b hb => by obtain rfl := Option.some.inj hb; exact HB12.out.1))
      refine hK.out _ _ ?_
      clear hK K hm13 hg13
      refine done_ (by kernel_rfl) ?_
      clear hHeld
      go_wp2
      have hi := HI.out
      have hl := LT.out
      go_roundw
      case rel => exact ⟨i + 1, _, by rw [EW.out], ⟨by omega⟩, V13, F13, HRR⟩
      case measure =>
       simp [EW.out, intOf]
       omega
     ·rw [if_neg h6] at hR
      have e6 : (n6 != 0) = true := bne_iff_ne.2 h6
      have HRR := ak_ hR
      clear hR h6
      go_wp2_with (first
       | (go_at_call 79; refine (inode_Decode.calls k x.f1 n1 n2 n3 n4 n5 n6 _ HN.out).mono ?_; rintro e w11 ⟨rfl, hb11⟩; have B11 := ak_ hb11; clear hb11 y0 y1)
       | ((with_reducible refine gate_dst (N := 7) rfl ?_); refine var_event (N := 7) (T := 31) (n := 5) (zc := #[.int .u8 0, .int .u16 0, .int .u32 0, .int .u32 0, .string ⟨#[]⟩]) (cs := #[.int .u8 n1, .int .u16 n2, .int .u32 n3, .int .u32 n4, .string n5]) rfl rfl rfl (.tmp 56) rfl rfl ?hr (by kernel_rfl) rfl rfl rfl ?hx ?hN ?_; (case hx => intro p_; rfl); (case hN => intro p_; rfl); (case hr => first | (go_simp; done) | (go_simp; rfl)); intro gn hgn w12 hx12 hb12; have N12 := ak_ hx12; have B12 := ak_ (below_step B11.out hb12); clear hx12 hb12 hgn))
      go_ret
      have hv := V10.out.below B12.out
      obtain ⟨va, bi2, bu2, hG, _⟩ := hv
      have ho := HO.out
      rw [← Option.some.inj HRR.out] at ho
      obtain rfl := Option.some.inj ho
      exact ⟨rfl, F10.out.below B12.out, (fun s hs => by cases hs), va, _, _, hG⟩
    ·rw [if_neg k1] at hR
     have e1 : (q1 == 1) = false := beq_eq_false_iff_ne.2 k1
     clear k1
     by_cases k2 : q1 = 2
     ·rw [if_pos k2] at hR
      have e2 : (q1 == 2) = true := beq_iff_eq.2 k2
      obtain ⟨t, ht, hR⟩ := Option.bind_eq_some_iff.mp hR
      have HT := ak_ ht
      have HTW := ak_ (number_wf ht)
      have HRR := ak_ hR
      have y1 : w10.cell? ⟨gx, 1, none⟩ = some (.string x.f1) := (blk_cell X10.out 1).trans rfl
      clear hR k2 ht
      go_wp2_with (first | (go_at_call 43; refine (dirs_number.calls k x.f1 t _ HT.out).mono ?_; rintro e w12 ⟨rfl, hd12⟩; have B12 := ak_ hd12.below; clear hd12 y0 y1))
      have hv := V10.out.below B12.out
      obtain ⟨va, bi3, bu3, hG, hA, hI, hU, hbi, hbu, hne, hgb, hok⟩ := hv
      have G12 := ak_ hG
      have A12 := ak_ hA
      have I12 := ak_ hI
      have U12 := ak_ hU
      have HB12 := ak_ (And.intro hbi hbu)
      have HNE12 := ak_ hne
      have HOK12 := ak_ hok
      have K12 := ak_ (blk_below K10.out B12.out)
      clear hG hA hI hU hbi hbu hne hgb hok
      obtain ⟨y, hy⟩ : ∃ y, y = (s.up t).getD (0, 0) := ⟨_, rfl⟩
      rw [← hy] at HRR
      have HY := ak_ hy
      clear hy
      refine start_ (n := 17) (S := (fun w' => w'.cell? ⟨g, 7, none⟩ = some (.map (some bu3)) ∧ w'.cell? ⟨gk, 1, none⟩ = some (.int .u32 q2) ∧ (Instr.lookup 84 (.map (some bu3)) (.int .u32 t) false).run Tryz.prog w' = .ok (.agg #[.int .i64 y.1, .int .u32 y.2]) w')) (ds := [16]) #[false, false, false, false, false, false, false, false, false, false, false, false, false, false, false, false, false] (by kernel_rfl) rfl rfl ⟨(blk_cell (blk_below G12.out (show Below w12.heap.size w12 w12.drew from below_drew1 (Below.refl _ _))) 7).trans rfl, (blk_cell (blk_below K12.out (show Below w12.heap.size w12 w12.drew from below_drew1 (Below.refl _ _))) 1).trans rfl, (lookW (U12.out.move rfl : MapF Tryz.prog 24 w12.drew bu3 _ _) HTW.out HY.out)⟩ (fun hHeld => ?_)
      refine pure_ (i := 0) (N := some 72) (v := ?_) (a' := ?_) #[true, false, false, false, false, false, false, false, false, false, false, false, false, false, false, false, false] rfl rfl (by kernel_rfl) (fun _ _ _ h => h) (Or.inl ⟨by rfl, ?_⟩) ?_ ?_
      rotate_left
      ·intro w'
       go_simp
       with_reducible rfl
      rotate_left
      ·simp only [Act.put, List.setIfInBounds_toArray, List.set_cons_zero, List.set_cons_succ, i64_w, i32_w]
       rfl
      refine pure_ (i := 1) (N := some 73) (v := ?_) (a' := ?_) #[true, true, false, false, false, false, false, false, false, false, false, false, false, false, false, false, false] rfl rfl (by kernel_rfl) (fun _ _ _ h => h) (Or.inl ⟨by rfl, ?_⟩) ?_ ?_
      rotate_left
      ·intro w'
       go_simp
       with_reducible rfl
      rotate_left
      ·simp only [Act.put, List.setIfInBounds_toArray, List.set_cons_zero, List.set_cons_succ, i64_w, i32_w]
       rfl
      refine pure_ (i := 2) (N := some 74) (v := ?_) (a' := ?_) #[true, true, true, false, false, false, false, false, false, false, false, false, false, false, false, false, false] rfl rfl (by kernel_rfl) (fun _ _ _ h => h) (Or.inl ⟨by rfl, ?_⟩) ?_ ?_
      rotate_left
      ·intro w'
       go_simp
       with_reducible rfl
      rotate_left
      ·simp only [Act.put, List.setIfInBounds_toArray, List.set_cons_zero, List.set_cons_succ, i64_w, i32_w]
       rfl
      refine take_ (i := 3) (N := some 75) (v := ?_) (a' := ?_) #[true, true, true, true, false, false, false, false, false, false, false, false, false, false, false, false, false] rfl rfl (by kernel_rfl) (fun _ _ _ h => h) (Or.inl ⟨by rfl, ?_⟩) hHeld ?_ ?_
      rotate_left
      ·rintro w' ⟨s0, s1, s2⟩
       go_simp
       with_reducible rfl
      rotate_left
      ·simp only [Act.put, List.setIfInBounds_toArray, List.set_cons_zero, List.set_cons_succ, i64_w, i32_w]
       rfl
      refine pure_ (i := 4) (N := some 76) (v := ?_) (a' := ?_) #[true, true, true, true, true, false, false, false, false, false, false, false, false, false, false, false, false] rfl rfl (by kernel_rfl) (fun _ _ _ h => h) (Or.inl ⟨by rfl, ?_⟩) ?_ ?_
      rotate_left
      ·intro w'
       go_simp
       with_reducible rfl
      rotate_left
      ·simp only [Act.put, List.setIfInBounds_toArray, List.set_cons_zero, List.set_cons_succ, i64_w, i32_w]
       rfl
      refine pure_ (i := 5) (N := some 77) (v := ?_) (a' := ?_) #[true, true, true, true, true, true, false, false, false, false, false, false, false, false, false, false, false] rfl rfl (by kernel_rfl) (fun _ _ _ h => h) (Or.inl ⟨by rfl, ?_⟩) ?_ ?_
      rotate_left
      ·intro w'
       go_simp
       with_reducible rfl
      rotate_left
      ·simp only [Act.put, List.setIfInBounds_toArray, List.set_cons_zero, List.set_cons_succ, i64_w, i32_w]
       rfl
      refine pure_ (i := 6) (N := some 78) (v := ?_) (a' := ?_) #[true, true, true, true, true, true, true, false, false, false, false, false, false, false, false, false, false] rfl rfl (by kernel_rfl) (fun _ _ _ h => h) (Or.inl ⟨by rfl, ?_⟩) ?_ ?_
      rotate_left
      ·intro w'
       go_simp
       with_reducible rfl
      rotate_left
      ·simp only [Act.put, List.setIfInBounds_toArray, List.set_cons_zero, List.set_cons_succ, i64_w, i32_w]
       rfl
      refine pure_ (i := 7) (N := some 79) (v := ?_) (a' := ?_) #[true, true, true, true, true, true, true, true, false, false, false, false, false, false, false, false, false] rfl rfl (by kernel_rfl) (fun _ _ _ h => h) (Or.inl ⟨by rfl, ?_⟩) ?_ ?_
      rotate_left
      ·intro w'
       go_simp
       with_reducible rfl
      rotate_left
      ·simp only [Act.put, List.setIfInBounds_toArray, List.set_cons_zero, List.set_cons_succ, i64_w, i32_w]
       rfl
      refine take_ (i := 8) (N := some 80) (v := ?_) (a' := ?_) #[true, true, true, true, true, true, true, true, true, false, false, false, false, false, false, false, false] rfl rfl (by kernel_rfl) (fun _ _ _ h => h) (Or.inl ⟨by rfl, ?_⟩) hHeld ?_ ?_
      rotate_left
      ·rintro w' ⟨s0, s1, s2⟩
       go_simp
       with_reducible rfl
      rotate_left
      ·simp only [Act.put, List.setIfInBounds_toArray, List.set_cons_zero, List.set_cons_succ, i64_w, i32_w]
       rfl
      refine pure_ (i := 9) (N := some 81) (v := ?_) (a' := ?_) #[true, true, true, true, true, true, true, true, true, true, false, false, false, false, false, false, false] rfl rfl (by kernel_rfl) (fun _ _ _ h => h) (Or.inl ⟨by rfl, ?_⟩) ?_ ?_
      rotate_left
      ·intro w'
       go_simp
       with_reducible rfl
      rotate_left
      ·simp only [Act.put, List.setIfInBounds_toArray, List.set_cons_zero, List.set_cons_succ, i64_w, i32_w]
       rfl
      refine take_ (i := 10) (N := some 82) (v := ?_) (a' := ?_) #[true, true, true, true, true, true, true, true, true, true, true, false, false, false, false, false, false] rfl rfl (by kernel_rfl) (fun _ _ _ h => h) (Or.inl ⟨by rfl, ?_⟩) hHeld ?_ ?_
      rotate_left
      ·rintro w' ⟨s0, s1, s2⟩
       go_simp
       with_reducible rfl
      rotate_left
      ·simp only [Act.put, List.setIfInBounds_toArray, List.set_cons_zero, List.set_cons_succ, i64_w, i32_w]
       rfl
      refine pure_ (i := 11) (N := some 83) (v := ?_) (a' := ?_) #[true, true, true, true, true, true, true, true, true, true, true, true, false, false, false, false, false] rfl rfl (by kernel_rfl) (fun _ _ _ h => h) (Or.inl ⟨by rfl, ?_⟩) ?_ ?_
      rotate_left
      ·intro w'
       go_simp
       rfl
      rotate_left
      ·simp only [Act.put, List.setIfInBounds_toArray, List.set_cons_zero, List.set_cons_succ, i64_w, i32_w]
       rfl
      refine pure_ (i := 12) (N := some 84) (v := ?_) (a' := ?_) #[true, true, true, true, true, true, true, true, true, true, true, true, true, false, false, false, false] rfl rfl (by kernel_rfl) (fun _ _ _ h => h) (Or.inl ⟨by rfl, ?_⟩) ?_ ?_
      rotate_left
      ·intro w'
       go_simp
       with_reducible rfl
      rotate_left
      ·simp only [Act.put, List.setIfInBounds_toArray, List.set_cons_zero, List.set_cons_succ, i64_w, i32_w]
       rfl
      refine pure_ (i := 13) (N := some 85) (v := ?_) (a' := ?_) #[true, true, true, true, true, true, true, true, true, true, true, true, true, true, false, false, false] rfl rfl (by kernel_rfl) (fun _ _ _ h => h) (Or.inl ⟨by rfl, ?_⟩) ?_ ?_
      rotate_left
      ·intro w'
       go_simp
       with_reducible rfl
      rotate_left
      ·simp only [Act.put, List.setIfInBounds_toArray, List.set_cons_zero, List.set_cons_succ, i64_w, i32_w]
       rfl
      refine take_ (i := 14) (N := some 86) (v := ?_) (a' := ?_) #[true, true, true, true, true, true, true, true, true, true, true, true, true, true, true, false, false] rfl rfl (by kernel_rfl) (fun _ _ _ h => h) (Or.inl ⟨by rfl, ?_⟩) hHeld ?_ ?_
      rotate_left
      ·rintro w' ⟨s0, s1, s2⟩
       go_simp
       with_reducible rfl
      rotate_left
      ·simp only [Act.put, List.setIfInBounds_toArray, List.set_cons_zero, List.set_cons_succ, i64_w, i32_w]
       rfl
      refine pure_ (i := 15) (N := some 87) (v := ?_) (a' := ?_) #[true, true, true, true, true, true, true, true, true, true, true, true, true, true, true, true, false] rfl rfl (by kernel_rfl) (fun _ _ _ h => h) (Or.inl ⟨by rfl, ?_⟩) ?_ ?_
      rotate_left
      ·intro w'
       go_simp
       with_reducible rfl
      rotate_left
      ·simp only [Act.put, List.setIfInBounds_toArray, List.set_cons_zero, List.set_cons_succ, i64_w, i32_w]
       rfl
      refine last_ (i := 16) (N := none) #[true, true, true, true, true, true, true, true, true, true, true, true, true, true, true, true, true] rfl rfl (by kernel_rfl) (by decide) (fun K hK => ?_)
      refine map_store_step (k := 24) (by rfl) (.tmp 75) (.tmp 76) (.tmp 87) 84 108 rfl rfl Tryz.underlying24 Tryz.underlying84 rfl (U12.out.move rfl : MapF Tryz.prog 24 w12.drew bu3 _ _) HLN.out.2 t rfl (u32wf HTW.out) (upV (wrap64 (y.1 + 1), q2)) rfl ?_
      intro w13 hm13 hg13
      have V13 := ak_ (show VolR w13 g w.heap.size (.slice (some ad) l.length c) d m sm false ((s.add (⟨q1, q2, q3, q4, x.f1⟩ : KItm)).put2 t (wrap64 (y.1 + 1), q2)) from VolR.stU (w := w12.drew) (va := va) (bi := bi3) (bu := bu3) (v' := va) (s := s.add (⟨q1, q2, q3, q4, x.f1⟩ : KItm)) G12.out (Kd.R_below A12.out (show Below w12.heap.size w12 w12.drew from below_drew1 (Below.refl _ _))) (I12.out.move rfl) (U12.out.move rfl) HB12.out.1 HB12.out.2 HNE12.out HGB.out HOK12.out hm13 hg13 HLN.out.1 ⟨HQ.out.1, HQ.out.2.1⟩)
      have F13 := ak_ (show Fr g w w13 from ((F10.out.below B12.out).below (show Below w12.heap.size w12 w12.drew from below_drew1 (Below.refl _ _))).grown hg13 (fun b hb => by obtain rfl := Option.some.inj hb; exact HB12.out.2))
      refine hK.out _ _ ?_
      clear hK K hm13 hg13
      refine done_ (by kernel_rfl) ?_
      clear hHeld
      go_wp2
      have hi := HI.out
      have hl := LT.out
      go_roundw
      case rel => exact ⟨i + 1, _, by rw [EW.out], ⟨by omega⟩, V13, F13, HRR⟩
      case measure =>
       simp [EW.out, intOf]
       omega
     ·rw [if_neg k2] at hR
      have e2 : (q1 == 2) = false := beq_eq_false_iff_ne.2 k2
      have HRR := ak_ hR
      clear hR k2
      go_wp2
      have hi := HI.out
      have hl := LT.out
      go_roundw
      case rel => exact ⟨i + 1, s.add (⟨q1, q2, q3, q4, x.f1⟩ : KItm), by rw [EW.out], ⟨by omega⟩, V10, F10, HRR⟩
      case measure =>
       simp [EW.out, intOf]
       omega
   ·rw [if_neg h5] at hR
    have e5 : (q5 != 0) = true := bne_iff_ne.2 h5
    have HRR := ak_ hR
    clear hR h5
    go_wp2_with (first
     | ((with_reducible refine gate_dst (N := 4) rfl ?_); refine var_event (N := 4) (T := 56) (n := 2) (zc := #[.string ⟨#[]⟩, .string ⟨#[]⟩]) (cs := #[.string x.f0, .string x.f1]) rfl rfl rfl (.tmp 26) rfl rfl ?hr (by kernel_rfl) rfl rfl rfl ?hx ?hN ?_; (case hx => intro p_; rfl); (case hN => intro p_; rfl); (case hr => first | (go_simp; done) | (go_simp; rfl)); intro gx hgx w4 hx4 hb4; have X4 := ak_ hx4; have B4 := ak_ hb4; have y0 : w4.cell? ⟨gx, 0, none⟩ = some (.string x.f0) := (blk_cell X4.out 0).trans rfl; clear hx4 hb4 hgx k0 k1)
     | (go_at_call 78; refine (inode_Parse.calls k x.f0 q1 q2 q3 q4 q5 _ HPA.out).mono ?_; rintro e w5 ⟨rfl, hb5⟩; have X5 := ak_ (blk_below X4.out hb5); have B5 := ak_ (below_step B4.out hb5); clear hb5 y0)
     | ((with_reducible refine gate_dst (N := 5) rfl ?_); refine var_event (N := 5) (T := 59) (n := 4) (zc := #[.int .u8 0, .int .u32 0, .string ⟨#[]⟩, .int .u32 0]) (cs := #[.int .u8 q1, .int .u32 q2, .string q3, .int .u32 q4]) rfl rfl rfl (.tmp 31) rfl rfl ?hr (by kernel_rfl) rfl rfl rfl ?hx ?hN ?_; (case hx => intro p_; rfl); (case hN => intro p_; rfl); (case hr => first | (go_simp; done) | (go_simp; rfl)); intro gk hgk w6 hx6 hb6; have K6 := ak_ hx6; have X6 := ak_ (blk_below X5.out hb6); have B6 := ak_ (below_step B5.out hb6); clear hx6 hb6 hgk))
    go_ret
    have hv := HV.out.below B6.out
    obtain ⟨va, bi2, bu2, hG, _⟩ := hv
    have ho := HO.out
    rw [← Option.some.inj HRR.out] at ho
    obtain rfl := Option.some.inj ho
    exact ⟨rfl, HFR.out.below B6.out, (fun s hs => by cases hs), va, _, _, hG⟩
  ·have hge : decide (i < (l.length : Int)) = false := decide_eq_false hlt
   have hR := HP.out
   rw [List.drop_eq_nil_of_le (by omega), parseL] at hR
   have HRR := ak_ (Option.some.inj hR)
   clear hR hlt hi0 hi1
   have ho := HO.out
   rw [← HRR.out] at ho
   simp only at ho
   obtain ⟨ck, hck, ho⟩ := Option.bind_eq_some_iff.mp ho
   have HCK := ak_ hck
   obtain ⟨n1, hn1⟩ : ∃ n1, n1 = (s.ino 1).getD zI := ⟨_, rfl⟩
   rw [← hn1] at ho
   have HN1 := ak_ hn1
   have hv := HV.out
   obtain ⟨va, bi2, bu2, hG, hA, hI, hU, hbi, hbu, hne, hgb, hok⟩ := hv
   have G1 := ak_ hG
   have I1 := ak_ hI
   have q0 : wr.cell? ⟨g, 0, none⟩ = some (.slice A l.length c) := (blk_cell hG 0).trans rfl
   clear hG hA hI hU hbi hbu hne hgb hok hck hn1 V3 F3
   by_cases c0 : ck = 0
   ·subst c0
    have HOO := ak_ ho
    clear ho
    go_wp2_with (first | (go_at_call 80; refine (item_Check.calls k A c l 0 _ (HF.out _ HFR.out.1) HCC.out HCK.out).mono ?_; rintro e w2 ⟨rfl, hb2⟩; have B2 := ak_ hb2; have q6 : w2.cell? ⟨g, 6, none⟩ = some (.map (some bi2)) := (blk_cell (blk_below G1.out hb2) 6).trans rfl; have lk := lookN (I1.out.below hb2) (show (0 : Int) ≤ 1 ∧ (1 : Int) < 4294967296 by decide) HN1.out; have fl := fieldI n1; clear hb2 q0))
    go_ret
    have hv := HV.out.below B2.out
    have ho := HOO.out
    by_cases c1 : n1.kd = 1
    ·rw [if_pos ⟨(by first | rfl | trivial), c1⟩] at ho
     obtain rfl := Option.some.inj ho
     obtain ⟨va, bi3, bu3, hG, _⟩ := id hv
     refine ⟨?_, HFR.out.below B2.out, (fun s' hs => by obtain rfl := Option.some.inj hs; exact hv), va, _, _, hG⟩
     show Ending.returned (.bool (n1.kd == 1)) = _
     rw [beq_iff_eq.2 c1]
     rfl
    ·rw [if_neg (fun h => c1 h.2)] at ho
     obtain rfl := Option.some.inj ho
     obtain ⟨va, bi3, bu3, hG, _⟩ := hv
     refine ⟨?_, HFR.out.below B2.out, (fun s' hs => by cases hs), va, _, _, hG⟩
     show Ending.returned (.bool (n1.kd == 1)) = _
     rw [beq_eq_false_iff_ne.2 c1]
     rfl
   ·rw [if_neg (fun h => c0 h.1)] at ho
    have e0 : (ck == 0) = false := beq_eq_false_iff_ne.2 c0
    have HOO := ak_ ho
    clear ho c0
    go_wp2_with (first | (go_at_call 80; refine (item_Check.calls k A c l ck _ (HF.out _ HFR.out.1) HCC.out HCK.out).mono ?_; rintro e w2 ⟨rfl, hb2⟩; have B2 := ak_ hb2; have q6 : w2.cell? ⟨g, 6, none⟩ = some (.map (some bi2)) := (blk_cell (blk_below G1.out hb2) 6).trans rfl; have lk := lookN (I1.out.below hb2) (show (0 : Int) ≤ 1 ∧ (1 : Int) < 4294967296 by decide) HN1.out; have fl := fieldI n1; clear hb2 q0))
    go_ret
    obtain ⟨va, bi3, bu3, hG, _⟩ := HV.out.below B2.out
    obtain rfl := Option.some.inj HOO.out
    exact ⟨rfl, HFR.out.below B2.out, (fun s' hs => by cases hs), va, _, _, hG⟩
end Go.Proofs.YtpnmajblhgnkoaaGreat.Z
end

section
namespace Go.Proofs.YtpnmajblhgnkoaaGreat.Z
attribute [local go_sem ↓] Go.wp_at_zero Go.wp_at_succ
def lookAll (s : VS) : List KItm → Bool
 | [] => true
 | x :: r => if x.f0 = 1 ∧ ¬ x.f1 = 1 then
   (if IntKind.u64.wrap ((s.up x.f1).getD (0, 0)).1 = IntKind.u64.wrap ((s.ino x.f1).getD zI).ln then
    (if ((s.ino x.f1).getD zI).kd = 1 then (if rootedL s.up s.all.length x.f1 = true then lookAll s r else false) else lookAll s r) else false) else lookAll s r
def lookF (k : Nat) (l : List VIT) : Option (Option VS) := (parseF k l).bind fun o => match o with
 | none => some none
 | some s => (misfitL k s s.all).bind fun b => if b = true then some none else some (if lookAll s s.all = true then some s else none)
theorem lookF.mono (l : List VIT) : ∀ k, LeO (lookF k l) (lookF (k + 1) l) := fun k => by
 unfold lookF
 refine LeO.bind (parseF.mono _ _) (fun o => ?_)
 cases o with
 | none => exact LeO.refl _
 | some s => exact LeO.bind (misfitL.mono _ _ _) (fun _ => LeO.refl _)
theorem VolR.setR {w : World} {g base : Nat} {it : Value} {d m sm : Int} {r : Bool} {s : VS} (h : VolR w g base it d m sm r s) : VolR (w.setCell ⟨g, 4, none⟩ (.bool true)) g base it d m sm true s := by
 obtain ⟨va, bi, bu, hG, hA, hI, hU, hbi, hbu, hne, hgb, hok⟩ := h
 exact ⟨va, bi, bu, blk_set hG 4 _, row_setg hA hgb 4 _, hI.move (Below.heap_setCell _ ⟨g, 4, none⟩ _ bi (by show bi ≠ g; omega)), hU.move (Below.heap_setCell _ ⟨g, 4, none⟩ _ bu (by show bu ≠ g; omega)), hbi, hbu, hne, hgb, hok⟩
set_option maxRecDepth 100000 in
set_option maxHeartbeats 12800000 in
theorem look_calls (k : Nat) (g : Nat) (A : Option Addr) (c : Nat) (l : List VIT) (d m sm : Int) (o : Option VS) (w : World) (hb : w.heap[g]? = some (volO (.slice A l.length c) (.slice none 0 0) (.map none) (.map none) d m sm false)) (hF : ∀ W', KeepBut w W' g none → Kd.C k56 W' A l.length l) (hc : l.length ≤ c) (h : lookF k l = some o) :
  Calls Tryz.prog 37 #[.pointer (some ⟨g, 0, none⟩)] w fun e w' => e = .returned (.tuple #[]) ∧ Fr g w w' ∧ (∀ s, o = some s → VolR w' g w.heap.size (.slice A l.length c) d m sm true s) ∧ ∃ va vi vu, w'.heap[g]? = some (volO (.slice A l.length c) va vi vu d m sm o.isSome) := by
 unfold lookF at h
 obtain ⟨po, hpo, h⟩ := Option.bind_eq_some_iff.mp h
 have HB := ak_ hb
 have HF := ak_ hF
 have HCC := ak_ hc
 have HPO := ak_ hpo
 have HO := ak_ h
 have hnot : ∀ (x : Bool) (w : World), (Op.unary .not (.bool x)).run Tryz.prog w = .ok (.bool (!x)) w := fun _ _ => rfl
 have hmf : ∀ (fn : Fn) (first cap : Array Value) (w : World), (Instr.makeFunc fn first cap).run Tryz.prog w = .ok (.func fn first cap) w := fun _ _ _ _ => rfl
 clear hpo h hF hc hb
 cases po with
 | none =>
  go_enter Tryz.func37, Tryz.ntmps37
  go_wp2_with (first | (go_at_call 59; refine (parse_calls k g A c l d m sm none _ HB.out HF.out HCC.out HPO.out).mono ?_; rintro e w1 ⟨rfl, hf1, hv1, hb1⟩; have F1 := ak_ hf1; have B1 := ak_ hb1; clear hf1 hv1 hb1))
  refine bodyPost_ret (results_none rfl _ _ _) rfl ?_
  obtain rfl := Option.some.inj HO.out
  exact ⟨rfl, F1.out, (fun s hs => by cases hs), B1.out⟩
 | some s =>
  have ho := HO.out
  simp only at ho
  obtain ⟨mb, hmb, ho⟩ := Option.bind_eq_some_iff.mp ho
  have HMB := ak_ hmb
  have HOO := ak_ ho
  clear ho hmb HO
  cases mb with
  | true =>
   go_enter Tryz.func37, Tryz.ntmps37
   go_wp2_with (first | (go_at_call 59; refine (parse_calls k g A c l d m sm (some s) _ HB.out HF.out HCC.out HPO.out).mono ?_; rintro e w1 ⟨rfl, hf1, hv1, hb1⟩; have F1 := ak_ hf1; have V1 := ak_ (hv1 s rfl); obtain ⟨va, bi, bu, hG, hA, hI, hU, hbi, hbu, hne, hgb, hok⟩ := V1.out; obtain ⟨A1, c1, rfl⟩ := Kd.R_slice hA; have RA := ak_ (Kd.R_reads' hA); have HOK := ak_ hok; have G1 := ak_ hG; have MI1 := ak_ hI; have MU1 := ak_ hU; have q5 : w1.cell? ⟨g, 5, none⟩ = some (.slice A1 s.all.length c1) := (blk_cell hG 5).trans rfl; clear hf1 hv1 hb1 hG hA hI hU hbi hbu hne hgb hok) | (go_at_call 60; refine (kcontains_calls k A1 c1 g w.heap.size (.slice A l.length c) d m sm false s true _ V1.out RA.out.2.2 RA.out.2.1 HMB.out).mono ?_; rintro e w2 ⟨rfl, hb2⟩; clear q5; have B2 := ak_ hb2; have V2 := ak_ (V1.out.below hb2); have q5 : w2.cell? ⟨g, 5, none⟩ = some (.slice A1 s.all.length c1) := (blk_cell (blk_below G1.out hb2) 5).trans rfl; clear hb2))
   refine bodyPost_ret (results_none rfl _ _ _) rfl ?_
   obtain rfl := Option.some.inj HOO.out
   obtain ⟨va3, bi3, bu3, hG3, _⟩ := V1.out.below B2.out
   exact ⟨rfl, F1.out.below B2.out, (fun s hs => by cases hs), va3, _, _, hG3⟩
  | false =>
   have hoo := HOO.out
   rw [if_neg (by decide)] at hoo
   have HLO := ak_ (Option.some.inj hoo)
   clear hoo HOO
   go_enter Tryz.func37, Tryz.ntmps37
   go_wp2_with (first | (go_at_call 59; refine (parse_calls k g A c l d m sm (some s) _ HB.out HF.out HCC.out HPO.out).mono ?_; rintro e w1 ⟨rfl, hf1, hv1, hb1⟩; have F1 := ak_ hf1; have V1 := ak_ (hv1 s rfl); obtain ⟨va, bi, bu, hG, hA, hI, hU, hbi, hbu, hne, hgb, hok⟩ := V1.out; obtain ⟨A1, c1, rfl⟩ := Kd.R_slice hA; have RA := ak_ (Kd.R_reads' hA); have HOK := ak_ hok; have G1 := ak_ hG; have MI1 := ak_ hI; have MU1 := ak_ hU; have q5 : w1.cell? ⟨g, 5, none⟩ = some (.slice A1 s.all.length c1) := (blk_cell hG 5).trans rfl; clear hf1 hv1 hb1 hG hA hI hU hbi hbu hne hgb hok) | (go_at_call 60; refine (kcontains_calls k A1 c1 g w.heap.size (.slice A l.length c) d m sm false s false _ V1.out RA.out.2.2 RA.out.2.1 HMB.out).mono ?_; rintro e w2 ⟨rfl, hb2⟩; clear q5; have B2 := ak_ hb2; have V2 := ak_ (V1.out.below hb2); have q5 : w2.cell? ⟨g, 5, none⟩ = some (.slice A1 s.all.length c1) := (blk_cell (blk_below G1.out hb2) 5).trans rfl; clear hb2))
   have C2 := ak_ (Kd.C_below RA.out.2.2 B2.out)
   have G2 := ak_ (blk_below G1.out B2.out)
   clear h ho q5 RA HB
   go_loopw [22] (fun vi wr => ∃ i : Int, vi = .int .i64 i ∧ Aside0 (0 ≤ i ∧ i ≤ s.all.length) ∧ Aside0 (Below w2.heap.size w2 wr) ∧ Aside0 (lookAll s (s.all.drop i.toNat) = lookAll s s.all)) (fun vi _ => s.all.length - (intOf vi).toNat)
   case atStart => exact ⟨0, rfl, ⟨by omega⟩, ⟨Below.refl _ _⟩, ⟨rfl⟩⟩
   case round =>
    obtain ⟨i, rfl, HX, HBW, HRL⟩ := hrel
    obtain ⟨hi0, hi1⟩ := HX.out
    by_cases hlt : i < (s.all.length : Int)
    ·obtain ⟨ad, hAd, q0, q1, q2, q3, q4⟩ := at_Kept C2.out i hi0 hlt
     subst hAd
     replace q0 := (HBW.out.cell (World.block_lt_of_cell? w2 _ q0)).trans q0
     replace q1 := (HBW.out.cell (World.block_lt_of_cell? w2 _ q1)).trans q1
     replace q2 := (HBW.out.cell (World.block_lt_of_cell? w2 _ q2)).trans q2
     replace q3 := (HBW.out.cell (World.block_lt_of_cell? w2 _ q3)).trans q3
     replace q4 := (HBW.out.cell (World.block_lt_of_cell? w2 _ q4)).trans q4
     have hlt2 : decide (i < (s.all.length : Int)) = true := decide_eq_true hlt
     have p0 := eq_true hi0
     have p1 := eq_true hlt
     obtain ⟨x, hx⟩ : ∃ x, x = rd_Kept s.all i := ⟨_, rfl⟩
     have hR0 := HRL.out
     have hd := drop_Kept hi0 hlt
     have hmem : x ∈ s.all := List.mem_of_mem_drop (by rw [hd, ← hx]; exact List.mem_cons_self : x ∈ s.all.drop i.toNat)
     rw [hd, lookAll, ← hx] at hR0
     rw [← hx] at q0 q1 q2 q3 q4
     have HXR := ak_ (HOK.out.2.1 x hmem)
     have ew : wrap64 (i + 1) = i + 1 := by have := HOK.out.2.2.1; unfold wrap64; omega
     have EW := ak_ ew
     have LT := ak_ hlt
     have HR0 := ak_ hR0
     clear hmem hd ew hlt hi0 hi1 hx hR0
     by_cases hk : x.f0 = 1
     ·have e0 : (x.f0 != 1) = false := bne_eq_false_iff_eq.2 hk
      by_cases hk1 : x.f1 = 1
      ·have e1 : (x.f1 == 1) = true := beq_iff_eq.2 hk1
       have HR2 := ak_ (show lookAll s (s.all.drop (i + 1).toNat) = lookAll s s.all by have := HR0.out; rw [if_neg (fun h => h.2 hk1)] at this; exact this)
       clear HR0 hk hk1
       go_wp2_with (first | ((with_reducible refine gate_dst (N := 3) rfl ?_); refine var_event (N := 3) (T := 93) (n := 5) (zc := #[.int .u8 0, .int .u32 0, .string ⟨#[]⟩, .int .u32 0, .string ⟨#[]⟩]) (cs := #[.int .u8 x.f0, .int .u32 x.f1, .string x.f2, .int .u32 x.f3, .string x.f4]) rfl rfl rfl (.tmp 25) rfl rfl ?hr (by kernel_rfl) rfl rfl rfl ?hx ?hN ?_; (case hx => intro p_; rfl); (case hN => intro p_; rfl); (case hr => first | (go_simp; done) | (go_simp; rfl)); intro gx hgx w3 hx3 hb3; have X3 := ak_ hx3; have B3 := ak_ (below_step HBW.out hb3); have y0 : w3.cell? ⟨gx, 0, none⟩ = some (.int .u8 x.f0) := (blk_cell X3.out 0).trans rfl; have y1 : w3.cell? ⟨gx, 1, none⟩ = some (.int .u32 x.f1) := (blk_cell X3.out 1).trans rfl; clear hx3 hb3 hgx q0 q1 q2 q3 q4))
       have hx := HX.out
       have hl := LT.out
       go_roundw
       case rel => exact ⟨i + 1, by rw [EW.out], ⟨by omega⟩, ⟨B3.out⟩, HR2⟩
       case measure =>
        simp [EW.out, intOf]
        omega
      ·have e1 : (x.f1 == 1) = false := beq_eq_false_iff_ne.2 hk1
       obtain ⟨n, hn⟩ : ∃ n, n = (s.ino x.f1).getD zI := ⟨_, rfl⟩
       obtain ⟨y, hy⟩ : ∃ y, y = (s.up x.f1).getD (0, 0) := ⟨_, rfl⟩
       have hR := HR0.out
       rw [if_pos ⟨hk, hk1⟩, ← hn, ← hy] at hR
       have HR := ak_ hR
       have HN := ak_ hn
       have HY := ak_ hy
       clear hR hn hy hk hk1 HR0
       go_wp2_with (first | ((with_reducible refine gate_dst (N := 3) rfl ?_); refine var_event (N := 3) (T := 93) (n := 5) (zc := #[.int .u8 0, .int .u32 0, .string ⟨#[]⟩, .int .u32 0, .string ⟨#[]⟩]) (cs := #[.int .u8 x.f0, .int .u32 x.f1, .string x.f2, .int .u32 x.f3, .string x.f4]) rfl rfl rfl (.tmp 25) rfl rfl ?hr (by kernel_rfl) rfl rfl rfl ?hx ?hN ?_; (case hx => intro p_; rfl); (case hN => intro p_; rfl); (case hr => first | (go_simp; done) | (go_simp; rfl)); intro gx hgx w3 hx3 hb3; have X3 := ak_ hx3; have B3 := ak_ (below_step HBW.out hb3); have y0 : w3.cell? ⟨gx, 0, none⟩ = some (.int .u8 x.f0) := (blk_cell X3.out 0).trans rfl; have y1 : w3.cell? ⟨gx, 1, none⟩ = some (.int .u32 x.f1) := (blk_cell X3.out 1).trans rfl; clear hx3 hb3 hgx q0 q1 q2 q3 q4))
       have G3 := ak_ (blk_below G2.out B3.out)
       have V3 := ak_ (V2.out.below B3.out)
       have I3 := ak_ ((MI1.out.below B2.out).below B3.out)
       have U3 := ak_ ((MU1.out.below B2.out).below B3.out)
       refine start_ (n := 10) (S := (fun w' => w'.cell? ⟨g, 6, none⟩ = some (.map (some bi)) ∧ w'.cell? ⟨gx, 1, none⟩ = some (.int .u32 x.f1) ∧ (Instr.lookup 83 (.map (some bi)) (.int .u32 x.f1) false).run Tryz.prog w' = .ok (.agg #[.int .u8 n.kd, .int .u16 n.md, .int .u32 n.ln, .int .u32 n.sz, .string n.tg]) w')) (ds := [9]) #[false, false, false, false, false, false, false, false, false, false] (by kernel_rfl) rfl rfl ⟨(blk_cell (blk_below G3.out (show Below w3.heap.size w3 w3.drew from below_drew1 (Below.refl _ _))) 6).trans rfl, (blk_cell (blk_below X3.out (show Below w3.heap.size w3 w3.drew from below_drew1 (Below.refl _ _))) 1).trans rfl, (lookN (I3.out.move rfl : MapF Tryz.prog 24 w3.drew bi _ _) HXR.out HN.out)⟩ (fun hHeld => ?_)
       clear y0 y1
       refine pure_ (i := 0) (N := some 36) (v := ?_) (a' := ?_) #[true, false, false, false, false, false, false, false, false, false] rfl rfl (by kernel_rfl) (fun _ _ _ h => h) (Or.inl ⟨by rfl, ?_⟩) ?_ ?_
       rotate_left
       ·intro w'
        go_simp
        with_reducible rfl
       rotate_left
       ·simp only [Act.put, List.setIfInBounds_toArray, List.set_cons_zero, List.set_cons_succ, i64_w, i32_w]
        rfl
       refine pure_ (i := 1) (N := some 37) (v := ?_) (a' := ?_) #[true, true, false, false, false, false, false, false, false, false] rfl rfl (by kernel_rfl) (fun _ _ _ h => h) (Or.inl ⟨by rfl, ?_⟩) ?_ ?_
       rotate_left
       ·intro w'
        go_simp
        with_reducible rfl
       rotate_left
       ·simp only [Act.put, List.setIfInBounds_toArray, List.set_cons_zero, List.set_cons_succ, i64_w, i32_w]
        rfl
       refine pure_ (i := 2) (N := some 38) (v := ?_) (a' := ?_) #[true, true, true, false, false, false, false, false, false, false] rfl rfl (by kernel_rfl) (fun _ _ _ h => h) (Or.inl ⟨by rfl, ?_⟩) ?_ ?_
       rotate_left
       ·intro w'
        go_simp
        with_reducible rfl
       rotate_left
       ·simp only [Act.put, List.setIfInBounds_toArray, List.set_cons_zero, List.set_cons_succ, i64_w, i32_w]
        rfl
       refine take_ (i := 3) (N := some 39) (v := ?_) (a' := ?_) #[true, true, true, true, false, false, false, false, false, false] rfl rfl (by kernel_rfl) (fun _ _ _ h => h) (Or.inl ⟨by rfl, ?_⟩) hHeld ?_ ?_
       rotate_left
       ·rintro w' ⟨s0, s1, s2⟩
        go_simp
        with_reducible rfl
       rotate_left
       ·simp only [Act.put, List.setIfInBounds_toArray, List.set_cons_zero, List.set_cons_succ, i64_w, i32_w]
        rfl
       refine pure_ (i := 4) (N := some 40) (v := ?_) (a' := ?_) #[true, true, true, true, true, false, false, false, false, false] rfl rfl (by kernel_rfl) (fun _ _ _ h => h) (Or.inl ⟨by rfl, ?_⟩) ?_ ?_
       rotate_left
       ·intro w'
        go_simp
        with_reducible rfl
       rotate_left
       ·simp only [Act.put, List.setIfInBounds_toArray, List.set_cons_zero, List.set_cons_succ, i64_w, i32_w]
        rfl
       refine pure_ (i := 5) (N := some 41) (v := ?_) (a' := ?_) #[true, true, true, true, true, true, false, false, false, false] rfl rfl (by kernel_rfl) (fun _ _ _ h => h) (Or.inl ⟨by rfl, ?_⟩) ?_ ?_
       rotate_left
       ·intro w'
        go_simp
        with_reducible rfl
       rotate_left
       ·simp only [Act.put, List.setIfInBounds_toArray, List.set_cons_zero, List.set_cons_succ, i64_w, i32_w]
        rfl
       refine take_ (i := 6) (N := some 42) (v := ?_) (a' := ?_) #[true, true, true, true, true, true, true, false, false, false] rfl rfl (by kernel_rfl) (fun _ _ _ h => h) (Or.inl ⟨by rfl, ?_⟩) hHeld ?_ ?_
       rotate_left
       ·rintro w' ⟨s0, s1, s2⟩
        go_simp
        with_reducible rfl
       rotate_left
       ·simp only [Act.put, List.setIfInBounds_toArray, List.set_cons_zero, List.set_cons_succ, i64_w, i32_w]
        rfl
       refine take_ (i := 7) (N := some 43) (v := ?_) (a' := ?_) #[true, true, true, true, true, true, true, true, false, false] rfl rfl (by kernel_rfl) (fun _ _ _ h => h) (Or.inl ⟨by rfl, ?_⟩) hHeld ?_ ?_
       rotate_left
       ·rintro w' ⟨s0, s1, s2⟩
        go_simp
        with_reducible rfl
       rotate_left
       ·simp only [Act.put, List.setIfInBounds_toArray, List.set_cons_zero, List.set_cons_succ, i64_w, i32_w]
        rfl
       refine one_ (i := 8) (N := some 4) #[true, true, true, true, true, true, true, true, true, false] rfl rfl (by kernel_rfl) (by decide) (fun K hK => ?_)
       refine box_step (N := 4) (cs := #[.int .u8 0, .int .u16 0, .int .u32 0, .int .u32 0, .string ⟨#[]⟩]) (t := 31) (by rfl) rfl (by first | (go_simp; done) | (go_simp; rfl)) ?_
       intro gn hgn w4 hx4 hb4
       have Z4 := ak_ hx4
       have B4 := ak_ (show Below w3.heap.size w3 w4 from (below_drew1 (Below.refl w3.heap.size w3)).trans hb4)
       have GN := ak_ (show w3.heap.size ≤ gn by rw [hgn]; exact Nat.le_refl _)
       clear hx4 hb4 hgn
       refine hK.out _ _ ⟨(blk_cell (blk_below G3.out B4.out) 6).trans rfl, (blk_cell (blk_below X3.out B4.out) 1).trans rfl, (lookN (I3.out.below B4.out) HXR.out HN.out)⟩ (fun hHeld => ?_)
       clear hK K
       refine norm_ (a' := ?_) ?_ ?_
       rotate_left
       ·show Act.put _ (some 4) _ = _
        simp only [Act.put, List.setIfInBounds_toArray, List.set_cons_zero, List.set_cons_succ, i64_w, i32_w]
        rfl
       refine last_ (i := 9) (N := none) #[true, true, true, true, true, true, true, true, true, true] rfl rfl (by kernel_rfl) (by decide) (fun K hK => ?_)
       refine var_store_step (cs := #[.int .u8 n.kd, .int .u16 n.md, .int .u32 n.ln, .int .u32 n.sz, .string n.tg]) (n := 5) (by rfl) (.tmp 4) (.tmp 43) rfl rfl rfl rfl (by kernel_rfl) Z4.out rfl rfl rfl ?_
       intro w5 hx5 hb5
       have Z5 := ak_ hx5
       have B5 := ak_ (hb5 _ _ B4.out GN.out)
       refine hK.out _ _ ?_
       clear hK K hx5 hb5 Z4
       refine done_ (by kernel_rfl) ?_
       clear hHeld B4 GN
       have X5 := ak_ (blk_below X3.out B5.out)
       have G5 := ak_ (blk_below G3.out B5.out)
       have U5 := ak_ (U3.out.below B5.out)
       have V5 := ak_ (V3.out.below B5.out)
       have BW := ak_ (below_step B3.out B5.out)
       clear X3 G3 U3 I3 V3 B5 B3
       go_wp2
       refine start_ (n := 27) (S := (fun w' => w'.cell? ⟨g, 7, none⟩ = some (.map (some bu)) ∧ w'.cell? ⟨gx, 1, none⟩ = some (.int .u32 x.f1) ∧ w'.cell? ⟨gn, 2, none⟩ = some (.int .u32 n.ln) ∧ w'.cell? ⟨gn, 0, none⟩ = some (.int .u8 n.kd) ∧ (Instr.lookup 84 (.map (some bu)) (.int .u32 x.f1) false).run Tryz.prog w' = .ok (.agg #[.int .i64 y.1, .int .u32 y.2]) w')) (ds := []) #[false, false, false, false, false, false, false, false, false, false, false, false, false, false, false, false, false, false, false, false, false, false, false, false, false, false, false] (by kernel_rfl) rfl rfl ⟨(blk_cell (blk_below G5.out (show Below w5.heap.size w5 w5.drew from below_drew1 (Below.refl _ _))) 7).trans rfl, (blk_cell (blk_below X5.out (show Below w5.heap.size w5 w5.drew from below_drew1 (Below.refl _ _))) 1).trans rfl, (blk_cell (blk_below Z5.out (show Below w5.heap.size w5 w5.drew from below_drew1 (Below.refl _ _))) 2).trans rfl, (blk_cell (blk_below Z5.out (show Below w5.heap.size w5 w5.drew from below_drew1 (Below.refl _ _))) 0).trans rfl, (lookW (U5.out.below (show Below w5.heap.size w5 w5.drew from below_drew1 (Below.refl _ _))) HXR.out HY.out)⟩ (fun hHeld => ?_)
       refine pure_ (i := 0) (N := some 44) (v := ?_) (a' := ?_) #[true, false, false, false, false, false, false, false, false, false, false, false, false, false, false, false, false, false, false, false, false, false, false, false, false, false, false] rfl rfl (by kernel_rfl) (fun _ _ _ h => h) (Or.inl ⟨by rfl, ?_⟩) ?_ ?_
       rotate_left
       ·intro w'
        go_simp
        with_reducible rfl
       rotate_left
       ·simp only [Act.put, List.setIfInBounds_toArray, List.set_cons_zero, List.set_cons_succ, i64_w, i32_w]
        rfl
       refine pure_ (i := 1) (N := some 45) (v := ?_) (a' := ?_) #[true, true, false, false, false, false, false, false, false, false, false, false, false, false, false, false, false, false, false, false, false, false, false, false, false, false, false] rfl rfl (by kernel_rfl) (fun _ _ _ h => h) (Or.inl ⟨by rfl, ?_⟩) ?_ ?_
       rotate_left
       ·intro w'
        go_simp
        with_reducible rfl
       rotate_left
       ·simp only [Act.put, List.setIfInBounds_toArray, List.set_cons_zero, List.set_cons_succ, i64_w, i32_w]
        rfl
       refine pure_ (i := 2) (N := some 46) (v := ?_) (a' := ?_) #[true, true, true, false, false, false, false, false, false, false, false, false, false, false, false, false, false, false, false, false, false, false, false, false, false, false, false] rfl rfl (by kernel_rfl) (fun _ _ _ h => h) (Or.inl ⟨by rfl, ?_⟩) ?_ ?_
       rotate_left
       ·intro w'
        go_simp
        with_reducible rfl
       rotate_left
       ·simp only [Act.put, List.setIfInBounds_toArray, List.set_cons_zero, List.set_cons_succ, i64_w, i32_w]
        rfl
       refine take_ (i := 3) (N := some 47) (v := ?_) (a' := ?_) #[true, true, true, true, false, false, false, false, false, false, false, false, false, false, false, false, false, false, false, false, false, false, false, false, false, false, false] rfl rfl (by kernel_rfl) (fun _ _ _ h => h) (Or.inl ⟨by rfl, ?_⟩) hHeld ?_ ?_
       rotate_left
       ·rintro w' ⟨s0, s1, s2, s3, s4⟩
        go_simp
        with_reducible rfl
       rotate_left
       ·simp only [Act.put, List.setIfInBounds_toArray, List.set_cons_zero, List.set_cons_succ, i64_w, i32_w]
        rfl
       refine pure_ (i := 4) (N := some 48) (v := ?_) (a' := ?_) #[true, true, true, true, true, false, false, false, false, false, false, false, false, false, false, false, false, false, false, false, false, false, false, false, false, false, false] rfl rfl (by kernel_rfl) (fun _ _ _ h => h) (Or.inl ⟨by rfl, ?_⟩) ?_ ?_
       rotate_left
       ·intro w'
        go_simp
        with_reducible rfl
       rotate_left
       ·simp only [Act.put, List.setIfInBounds_toArray, List.set_cons_zero, List.set_cons_succ, i64_w, i32_w]
        rfl
       refine pure_ (i := 5) (N := some 49) (v := ?_) (a' := ?_) #[true, true, true, true, true, true, false, false, false, false, false, false, false, false, false, false, false, false, false, false, false, false, false, false, false, false, false] rfl rfl (by kernel_rfl) (fun _ _ _ h => h) (Or.inl ⟨by rfl, ?_⟩) ?_ ?_
       rotate_left
       ·intro w'
        go_simp
        with_reducible rfl
       rotate_left
       ·simp only [Act.put, List.setIfInBounds_toArray, List.set_cons_zero, List.set_cons_succ, i64_w, i32_w]
        rfl
       refine take_ (i := 6) (N := some 50) (v := ?_) (a' := ?_) #[true, true, true, true, true, true, true, false, false, false, false, false, false, false, false, false, false, false, false, false, false, false, false, false, false, false, false] rfl rfl (by kernel_rfl) (fun _ _ _ h => h) (Or.inl ⟨by rfl, ?_⟩) hHeld ?_ ?_
       rotate_left
       ·rintro w' ⟨s0, s1, s2, s3, s4⟩
        go_simp
        with_reducible rfl
       rotate_left
       ·simp only [Act.put, List.setIfInBounds_toArray, List.set_cons_zero, List.set_cons_succ, i64_w, i32_w]
        rfl
       refine take_ (i := 7) (N := some 51) (v := ?_) (a' := ?_) #[true, true, true, true, true, true, true, true, false, false, false, false, false, false, false, false, false, false, false, false, false, false, false, false, false, false, false] rfl rfl (by kernel_rfl) (fun _ _ _ h => h) (Or.inl ⟨by rfl, ?_⟩) hHeld ?_ ?_
       rotate_left
       ·rintro w' ⟨s0, s1, s2, s3, s4⟩
        go_simp
        with_reducible rfl
       rotate_left
       ·simp only [Act.put, List.setIfInBounds_toArray, List.set_cons_zero, List.set_cons_succ, i64_w, i32_w]
        rfl
       refine pure_ (i := 8) (N := some 52) (v := ?_) (a' := ?_) #[true, true, true, true, true, true, true, true, true, false, false, false, false, false, false, false, false, false, false, false, false, false, false, false, false, false, false] rfl rfl (by kernel_rfl) (fun _ _ _ h => h) (Or.inl ⟨by rfl, ?_⟩) ?_ ?_
       rotate_left
       ·intro w'
        go_simp
        rfl
       rotate_left
       ·simp only [Act.put, List.setIfInBounds_toArray, List.set_cons_zero, List.set_cons_succ, i64_w, i32_w]
        rfl
       refine pure_ (i := 9) (N := some 53) (v := ?_) (a' := ?_) #[true, true, true, true, true, true, true, true, true, true, false, false, false, false, false, false, false, false, false, false, false, false, false, false, false, false, false] rfl rfl (by kernel_rfl) (fun _ _ _ h => h) (Or.inl ⟨by rfl, ?_⟩) ?_ ?_
       rotate_left
       ·intro w'
        go_simp
        with_reducible rfl
       rotate_left
       ·simp only [Act.put, List.setIfInBounds_toArray, List.set_cons_zero, List.set_cons_succ, i64_w, i32_w]
        rfl
       refine pure_ (i := 10) (N := some 54) (v := ?_) (a' := ?_) #[true, true, true, true, true, true, true, true, true, true, true, false, false, false, false, false, false, false, false, false, false, false, false, false, false, false, false] rfl rfl (by kernel_rfl) (fun _ _ _ h => h) (Or.inl ⟨by rfl, ?_⟩) ?_ ?_
       rotate_left
       ·intro w'
        go_simp
        with_reducible rfl
       rotate_left
       ·simp only [Act.put, List.setIfInBounds_toArray, List.set_cons_zero, List.set_cons_succ, i64_w, i32_w]
        rfl
       refine take_ (i := 11) (N := some 55) (v := ?_) (a' := ?_) #[true, true, true, true, true, true, true, true, true, true, true, true, false, false, false, false, false, false, false, false, false, false, false, false, false, false, false] rfl rfl (by kernel_rfl) (fun _ _ _ h => h) (Or.inl ⟨by rfl, ?_⟩) hHeld ?_ ?_
       rotate_left
       ·rintro w' ⟨s0, s1, s2, s3, s4⟩
        go_simp
        with_reducible rfl
       rotate_left
       ·simp only [Act.put, List.setIfInBounds_toArray, List.set_cons_zero, List.set_cons_succ, i64_w, i32_w]
        rfl
       refine pure_ (i := 12) (N := some 56) (v := ?_) (a' := ?_) #[true, true, true, true, true, true, true, true, true, true, true, true, true, false, false, false, false, false, false, false, false, false, false, false, false, false, false] rfl rfl (by kernel_rfl) (fun _ _ _ h => h) (Or.inl ⟨by rfl, ?_⟩) ?_ ?_
       rotate_left
       ·intro w'
        go_simp
        with_reducible rfl
       rotate_left
       ·simp only [Act.put, List.setIfInBounds_toArray, List.set_cons_zero, List.set_cons_succ, i64_w, i32_w]
        rfl
       refine pure_ (i := 13) (N := some 57) (v := ?_) (a' := ?_) #[true, true, true, true, true, true, true, true, true, true, true, true, true, true, false, false, false, false, false, false, false, false, false, false, false, false, false] rfl rfl (by kernel_rfl) (fun _ _ _ h => h) (Or.inl ⟨by rfl, ?_⟩) ?_ ?_
       rotate_left
       ·intro w'
        go_simp
        with_reducible rfl
       rotate_left
       ·simp only [Act.put, List.setIfInBounds_toArray, List.set_cons_zero, List.set_cons_succ, i64_w, i32_w]
        rfl
       refine pure_ (i := 14) (N := some 58) (v := ?_) (a' := ?_) #[true, true, true, true, true, true, true, true, true, true, true, true, true, true, true, false, false, false, false, false, false, false, false, false, false, false, false] rfl rfl (by kernel_rfl) (fun _ _ _ h => h) (Or.inl ⟨by rfl, ?_⟩) ?_ ?_
       rotate_left
       ·intro w'
        go_simp
        with_reducible rfl
       rotate_left
       ·simp only [Act.put, List.setIfInBounds_toArray, List.set_cons_zero, List.set_cons_succ, i64_w, i32_w]
        rfl
       generalize hcb : (IntKind.u64.wrap y.1 != IntKind.u64.wrap n.ln) = cb
       cases cb with
       | true =>
        refine pure_ (i := 15) (N := some 59) (v := undef) (a' := ?_) #[true, true, true, true, true, true, true, true, true, true, true, true, true, true, true, true, false, false, false, false, false, false, false, false, false, false, false] rfl rfl (by kernel_rfl) (fun _ _ _ h => h) (Or.inr ⟨by rfl, rfl⟩) ?_ ?_
        rotate_left
        ·simp only [Act.put, List.setIfInBounds_toArray, List.set_cons_zero, List.set_cons_succ, i64_w, i32_w]
         rfl
        refine pure_ (i := 16) (N := some 60) (v := undef) (a' := ?_) #[true, true, true, true, true, true, true, true, true, true, true, true, true, true, true, true, true, false, false, false, false, false, false, false, false, false, false] rfl rfl (by kernel_rfl) (fun _ _ _ h => h) (Or.inr ⟨by rfl, rfl⟩) ?_ ?_
        rotate_left
        ·simp only [Act.put, List.setIfInBounds_toArray, List.set_cons_zero, List.set_cons_succ, i64_w, i32_w]
         rfl
        refine pure_ (i := 17) (N := some 61) (v := undef) (a' := ?_) #[true, true, true, true, true, true, true, true, true, true, true, true, true, true, true, true, true, true, false, false, false, false, false, false, false, false, false] rfl rfl (by kernel_rfl) (fun _ _ _ h => h) (Or.inr ⟨by rfl, rfl⟩) ?_ ?_
        rotate_left
        ·simp only [Act.put, List.setIfInBounds_toArray, List.set_cons_zero, List.set_cons_succ, i64_w, i32_w]
         rfl
        refine pure_ (i := 18) (N := some 62) (v := undef) (a' := ?_) #[true, true, true, true, true, true, true, true, true, true, true, true, true, true, true, true, true, true, true, false, false, false, false, false, false, false, false] rfl rfl (by kernel_rfl) (fun _ _ _ h => h) (Or.inr ⟨by rfl, rfl⟩) ?_ ?_
        rotate_left
        ·simp only [Act.put, List.setIfInBounds_toArray, List.set_cons_zero, List.set_cons_succ, i64_w, i32_w]
         rfl
        refine pure_ (i := 19) (N := some 63) (v := undef) (a' := ?_) #[true, true, true, true, true, true, true, true, true, true, true, true, true, true, true, true, true, true, true, true, false, false, false, false, false, false, false] rfl rfl (by kernel_rfl) (fun _ _ _ h => h) (Or.inr ⟨by rfl, rfl⟩) ?_ ?_
        rotate_left
        ·simp only [Act.put, List.setIfInBounds_toArray, List.set_cons_zero, List.set_cons_succ, i64_w, i32_w]
         rfl
        refine pure_ (i := 20) (N := some 64) (v := undef) (a' := ?_) #[true, true, true, true, true, true, true, true, true, true, true, true, true, true, true, true, true, true, true, true, true, false, false, false, false, false, false] rfl rfl (by kernel_rfl) (fun _ _ _ h => h) (Or.inr ⟨by rfl, rfl⟩) ?_ ?_
        rotate_left
        ·simp only [Act.put, List.setIfInBounds_toArray, List.set_cons_zero, List.set_cons_succ, i64_w, i32_w]
         rfl
        refine pure_ (i := 21) (N := some 65) (v := undef) (a' := ?_) #[true, true, true, true, true, true, true, true, true, true, true, true, true, true, true, true, true, true, true, true, true, true, false, false, false, false, false] rfl rfl (by kernel_rfl) (fun _ _ _ h => h) (Or.inr ⟨by rfl, rfl⟩) ?_ ?_
        rotate_left
        ·simp only [Act.put, List.setIfInBounds_toArray, List.set_cons_zero, List.set_cons_succ, i64_w, i32_w]
         rfl
        refine pure_ (i := 22) (N := some 66) (v := undef) (a' := ?_) #[true, true, true, true, true, true, true, true, true, true, true, true, true, true, true, true, true, true, true, true, true, true, true, false, false, false, false] rfl rfl (by kernel_rfl) (fun _ _ _ h => h) (Or.inr ⟨by rfl, rfl⟩) ?_ ?_
        rotate_left
        ·simp only [Act.put, List.setIfInBounds_toArray, List.set_cons_zero, List.set_cons_succ, i64_w, i32_w]
         rfl
        refine pure_ (i := 23) (N := some 67) (v := undef) (a' := ?_) #[true, true, true, true, true, true, true, true, true, true, true, true, true, true, true, true, true, true, true, true, true, true, true, true, false, false, false] rfl rfl (by kernel_rfl) (fun _ _ _ h => h) (Or.inr ⟨by rfl, rfl⟩) ?_ ?_
        rotate_left
        ·simp only [Act.put, List.setIfInBounds_toArray, List.set_cons_zero, List.set_cons_succ, i64_w, i32_w]
         rfl
        refine pure_ (i := 24) (N := some 68) (v := undef) (a' := ?_) #[true, true, true, true, true, true, true, true, true, true, true, true, true, true, true, true, true, true, true, true, true, true, true, true, true, false, false] rfl rfl (by kernel_rfl) (fun _ _ _ h => h) (Or.inr ⟨by rfl, rfl⟩) ?_ ?_
        rotate_left
        ·simp only [Act.put, List.setIfInBounds_toArray, List.set_cons_zero, List.set_cons_succ, i64_w, i32_w]
         rfl
        refine pure_ (i := 25) (N := some 69) (v := undef) (a' := ?_) #[true, true, true, true, true, true, true, true, true, true, true, true, true, true, true, true, true, true, true, true, true, true, true, true, true, true, false] rfl rfl (by kernel_rfl) (fun _ _ _ h => h) (Or.inr ⟨by rfl, rfl⟩) ?_ ?_
        rotate_left
        ·simp only [Act.put, List.setIfInBounds_toArray, List.set_cons_zero, List.set_cons_succ, i64_w, i32_w]
         rfl
        refine pure_ (i := 26) (N := some 70) (v := ?_) (a' := ?_) #[true, true, true, true, true, true, true, true, true, true, true, true, true, true, true, true, true, true, true, true, true, true, true, true, true, true, true] rfl rfl (by kernel_rfl) (fun _ _ _ h => h) (Or.inl ⟨by rfl, ?_⟩) ?_ ?_
        rotate_left
        ·intro w'
         go_simp
         with_reducible rfl
        rotate_left
        ·simp only [Act.put, List.setIfInBounds_toArray, List.set_cons_zero, List.set_cons_succ, i64_w, i32_w]
         rfl
        refine done_ (by kernel_rfl) ?_
        clear hHeld
        have h0 : ¬ IntKind.u64.wrap y.1 = IntKind.u64.wrap n.ln := bne_iff_ne.1 hcb
        have hR := HR.out
        rw [if_neg h0] at hR
        have hq := HLO.out
        rw [← hR, if_neg (by decide)] at hq
        obtain rfl := hq
        clear hR h0 hcb
        go_wp2
        refine bodyPost_ret (results_none rfl _ _ _) rfl ?_
        obtain ⟨va9, bi9, bu9, hG9, _⟩ := V5.out.below (show Below w5.heap.size w5 w5.drew from below_drew1 (Below.refl _ _))
        exact ⟨rfl, ((F1.out.below B2.out).below BW.out).below (show Below w5.heap.size w5 w5.drew from below_drew1 (Below.refl _ _)), (fun s hs => by cases hs), va9, _, _, hG9⟩
       | false =>
        have h0 : IntKind.u64.wrap y.1 = IntKind.u64.wrap n.ln := bne_eq_false_iff_eq.1 hcb
        have hR := HR.out
        rw [if_pos h0] at hR
        clear h0 hcb
        refine pure_ (i := 15) (N := some 59) (v := ?_) (a' := ?_) #[true, true, true, true, true, true, true, true, true, true, true, true, true, true, true, true, false, false, false, false, false, false, false, false, false, false, false] rfl rfl (by kernel_rfl) (fun _ _ _ h => h) (Or.inl ⟨by rfl, ?_⟩) ?_ ?_
        rotate_left
        ·intro w'
         go_simp
         with_reducible rfl
        rotate_left
        ·simp only [Act.put, List.setIfInBounds_toArray, List.set_cons_zero, List.set_cons_succ, i64_w, i32_w]
         rfl
        refine take_ (i := 16) (N := some 60) (v := ?_) (a' := ?_) #[true, true, true, true, true, true, true, true, true, true, true, true, true, true, true, true, true, false, false, false, false, false, false, false, false, false, false] rfl rfl (by kernel_rfl) (fun _ _ _ h => h) (Or.inl ⟨by rfl, ?_⟩) hHeld ?_ ?_
        rotate_left
        ·rintro w' ⟨s0, s1, s2, s3, s4⟩
         go_simp
         with_reducible rfl
        rotate_left
        ·simp only [Act.put, List.setIfInBounds_toArray, List.set_cons_zero, List.set_cons_succ, i64_w, i32_w]
         rfl
        refine pure_ (i := 17) (N := some 61) (v := ?_) (a' := ?_) #[true, true, true, true, true, true, true, true, true, true, true, true, true, true, true, true, true, true, false, false, false, false, false, false, false, false, false] rfl rfl (by kernel_rfl) (fun _ _ _ h => h) (Or.inl ⟨by rfl, ?_⟩) ?_ ?_
        rotate_left
        ·intro w'
         go_simp
         with_reducible rfl
        rotate_left
        ·simp only [Act.put, List.setIfInBounds_toArray, List.set_cons_zero, List.set_cons_succ, i64_w, i32_w]
         rfl
        refine pure_ (i := 18) (N := some 62) (v := ?_) (a' := ?_) #[true, true, true, true, true, true, true, true, true, true, true, true, true, true, true, true, true, true, true, false, false, false, false, false, false, false, false] rfl rfl (by kernel_rfl) (fun _ _ _ h => h) (Or.inl ⟨by rfl, ?_⟩) ?_ ?_
        rotate_left
        ·intro w'
         go_simp
         with_reducible rfl
        rotate_left
        ·simp only [Act.put, List.setIfInBounds_toArray, List.set_cons_zero, List.set_cons_succ, i64_w, i32_w]
         rfl
        generalize hkb : (n.kd == 1) = kb
        cases kb with
        | false =>
         rw [if_neg (beq_eq_false_iff_ne.1 hkb)] at hR
         have HR2 := ak_ hR
         clear hR hkb
         refine pure_ (i := 19) (N := some 63) (v := undef) (a' := ?_) #[true, true, true, true, true, true, true, true, true, true, true, true, true, true, true, true, true, true, true, true, false, false, false, false, false, false, false] rfl rfl (by kernel_rfl) (fun _ _ _ h => h) (Or.inr ⟨by rfl, rfl⟩) ?_ ?_
         rotate_left
         ·simp only [Act.put, List.setIfInBounds_toArray, List.set_cons_zero, List.set_cons_succ, i64_w, i32_w]
          rfl
         refine pure_ (i := 20) (N := some 64) (v := undef) (a' := ?_) #[true, true, true, true, true, true, true, true, true, true, true, true, true, true, true, true, true, true, true, true, true, false, false, false, false, false, false] rfl rfl (by kernel_rfl) (fun _ _ _ h => h) (Or.inr ⟨by rfl, rfl⟩) ?_ ?_
         rotate_left
         ·simp only [Act.put, List.setIfInBounds_toArray, List.set_cons_zero, List.set_cons_succ, i64_w, i32_w]
          rfl
         refine pure_ (i := 21) (N := some 65) (v := undef) (a' := ?_) #[true, true, true, true, true, true, true, true, true, true, true, true, true, true, true, true, true, true, true, true, true, true, false, false, false, false, false] rfl rfl (by kernel_rfl) (fun _ _ _ h => h) (Or.inr ⟨by rfl, rfl⟩) ?_ ?_
         rotate_left
         ·simp only [Act.put, List.setIfInBounds_toArray, List.set_cons_zero, List.set_cons_succ, i64_w, i32_w]
          rfl
         refine pure_ (i := 22) (N := some 66) (v := undef) (a' := ?_) #[true, true, true, true, true, true, true, true, true, true, true, true, true, true, true, true, true, true, true, true, true, true, true, false, false, false, false] rfl rfl (by kernel_rfl) (fun _ _ _ h => h) (Or.inr ⟨by rfl, rfl⟩) ?_ ?_
         rotate_left
         ·simp only [Act.put, List.setIfInBounds_toArray, List.set_cons_zero, List.set_cons_succ, i64_w, i32_w]
          rfl
         refine pure_ (i := 23) (N := some 67) (v := undef) (a' := ?_) #[true, true, true, true, true, true, true, true, true, true, true, true, true, true, true, true, true, true, true, true, true, true, true, true, false, false, false] rfl rfl (by kernel_rfl) (fun _ _ _ h => h) (Or.inr ⟨by rfl, rfl⟩) ?_ ?_
         rotate_left
         ·simp only [Act.put, List.setIfInBounds_toArray, List.set_cons_zero, List.set_cons_succ, i64_w, i32_w]
          rfl
         refine pure_ (i := 24) (N := some 68) (v := undef) (a' := ?_) #[true, true, true, true, true, true, true, true, true, true, true, true, true, true, true, true, true, true, true, true, true, true, true, true, true, false, false] rfl rfl (by kernel_rfl) (fun _ _ _ h => h) (Or.inr ⟨by rfl, rfl⟩) ?_ ?_
         rotate_left
         ·simp only [Act.put, List.setIfInBounds_toArray, List.set_cons_zero, List.set_cons_succ, i64_w, i32_w]
          rfl
         refine pure_ (i := 25) (N := some 69) (v := ?_) (a' := ?_) #[true, true, true, true, true, true, true, true, true, true, true, true, true, true, true, true, true, true, true, true, true, true, true, true, true, true, false] rfl rfl (by kernel_rfl) (fun _ _ _ h => h) (Or.inl ⟨by rfl, ?_⟩) ?_ ?_
         rotate_left
         ·intro w'
          go_simp
          with_reducible rfl
         rotate_left
         ·simp only [Act.put, List.setIfInBounds_toArray, List.set_cons_zero, List.set_cons_succ, i64_w, i32_w]
          rfl
         refine pure_ (i := 26) (N := some 70) (v := ?_) (a' := ?_) #[true, true, true, true, true, true, true, true, true, true, true, true, true, true, true, true, true, true, true, true, true, true, true, true, true, true, true] rfl rfl (by kernel_rfl) (fun _ _ _ h => h) (Or.inl ⟨by rfl, ?_⟩) ?_ ?_
         rotate_left
         ·intro w'
          go_simp
          with_reducible rfl
         rotate_left
         ·simp only [Act.put, List.setIfInBounds_toArray, List.set_cons_zero, List.set_cons_succ, i64_w, i32_w]
          rfl
         refine done_ (by kernel_rfl) ?_
         clear hHeld
         go_wp2
         have hx := HX.out
         have hl := LT.out
         go_roundw
         case rel => exact ⟨i + 1, by rw [EW.out], ⟨by omega⟩, ⟨below_step BW.out (show Below w5.heap.size w5 w5.drew from below_drew1 (Below.refl _ _))⟩, HR2⟩
         case measure =>
          simp [EW.out, intOf]
          omega
        | true =>
         rw [if_pos (beq_iff_eq.1 hkb)] at hR
         have HR1 := ak_ hR
         clear hR hkb
         refine pure_ (i := 19) (N := some 63) (v := ?_) (a' := ?_) #[true, true, true, true, true, true, true, true, true, true, true, true, true, true, true, true, true, true, true, true, false, false, false, false, false, false, false] rfl rfl (by kernel_rfl) (fun _ _ _ h => h) (Or.inl ⟨by rfl, ?_⟩) ?_ ?_
         rotate_left
         ·intro w'
          go_simp
          with_reducible rfl
         rotate_left
         ·simp only [Act.put, List.setIfInBounds_toArray, List.set_cons_zero, List.set_cons_succ, i64_w, i32_w]
          rfl
         refine pure_ (i := 20) (N := some 64) (v := ?_) (a' := ?_) #[true, true, true, true, true, true, true, true, true, true, true, true, true, true, true, true, true, true, true, true, true, false, false, false, false, false, false] rfl rfl (by kernel_rfl) (fun _ _ _ h => h) (Or.inl ⟨by rfl, ?_⟩) ?_ ?_
         rotate_left
         ·intro w'
          go_simp
          with_reducible rfl
         rotate_left
         ·simp only [Act.put, List.setIfInBounds_toArray, List.set_cons_zero, List.set_cons_succ, i64_w, i32_w]
          rfl
         refine pure_ (i := 21) (N := some 65) (v := ?_) (a' := ?_) #[true, true, true, true, true, true, true, true, true, true, true, true, true, true, true, true, true, true, true, true, true, true, false, false, false, false, false] rfl rfl (by kernel_rfl) (fun _ _ _ h => h) (Or.inl ⟨by rfl, ?_⟩) ?_ ?_
         rotate_left
         ·intro w'
          go_simp
          with_reducible rfl
         rotate_left
         ·simp only [Act.put, List.setIfInBounds_toArray, List.set_cons_zero, List.set_cons_succ, i64_w, i32_w]
          rfl
         refine take_ (i := 22) (N := some 66) (v := ?_) (a' := ?_) #[true, true, true, true, true, true, true, true, true, true, true, true, true, true, true, true, true, true, true, true, true, true, true, false, false, false, false] rfl rfl (by kernel_rfl) (fun _ _ _ h => h) (Or.inl ⟨by rfl, ?_⟩) hHeld ?_ ?_
         rotate_left
         ·rintro w' ⟨s0, s1, s2, s3, s4⟩
          go_simp
          with_reducible rfl
         rotate_left
         ·simp only [Act.put, List.setIfInBounds_toArray, List.set_cons_zero, List.set_cons_succ, i64_w, i32_w]
          rfl
         refine one_ (i := 23) (N := some 67) #[true, true, true, true, true, true, true, true, true, true, true, true, true, true, true, true, true, true, true, true, true, true, true, true, false, false, false] rfl rfl (by kernel_rfl) (by decide) (fun K hK => ?_)
         refine goes_ Tryz.func62 (by kernel_rfl) rfl #[.pointer (some ⟨g, 0, none⟩), .int .u32 x.f1] (by rfl) rfl rfl (by (try simp only [List.map_toArray, List.map_cons, List.map_nil]); first | done | rfl) ?_
         refine (rooted_calls g w.heap.size (.slice A l.length c) d m sm false s x.f1 _ (V5.out.below (show Below w5.heap.size w5 w5.drew from below_drew1 (Below.refl _ _))) HXR.out).mono ?_
         rintro e w6 ⟨rfl, hb6⟩
         have B6 := ak_ (show Below w5.heap.size w5 w6 from below_then (show Below w5.heap.size w5 w5.drew from below_drew1 (Below.refl _ _)) (show Below w5.heap.size w5 w5.drew from below_drew1 (Below.refl _ _)).size hb6)
         clear hb6
         refine ⟨_, rfl, ?_⟩
         refine hK.out _ _ ⟨(blk_cell (blk_below G5.out B6.out) 7).trans rfl, (blk_cell (blk_below X5.out B6.out) 1).trans rfl, (blk_cell (blk_below Z5.out B6.out) 2).trans rfl, (blk_cell (blk_below Z5.out B6.out) 0).trans rfl, (lookW (U5.out.below B6.out) HXR.out HY.out)⟩ (fun hHeld => ?_)
         clear hK K
         refine norm_ (a' := ?_) ?_ ?_
         rotate_left
         ·show Act.put _ (some 67) _ = _
          simp only [Act.put, List.setIfInBounds_toArray, List.set_cons_zero, List.set_cons_succ, i64_w, i32_w]
          rfl
         generalize hrb : rootedL s.up s.all.length x.f1 = rb
         rw [hrb] at HR1
         cases rb with
         | true =>
          have HR2 := ak_ (show lookAll s (s.all.drop (i + 1).toNat) = lookAll s s.all by have := HR1.out; rw [if_pos rfl] at this; exact this)
          clear HR1 hrb
          refine pure_ (i := 24) (N := some 68) (v := ?_) (a' := ?_) #[true, true, true, true, true, true, true, true, true, true, true, true, true, true, true, true, true, true, true, true, true, true, true, true, true, false, false] rfl rfl (by kernel_rfl) (fun _ _ _ h => h) (Or.inl ⟨by rfl, ?_⟩) ?_ ?_
          rotate_left
          ·intro w'
           go_simp
           with_reducible rfl
          rotate_left
          ·simp only [Act.put, List.setIfInBounds_toArray, List.set_cons_zero, List.set_cons_succ, i64_w, i32_w]
           rfl
          refine pure_ (i := 25) (N := some 69) (v := ?_) (a' := ?_) #[true, true, true, true, true, true, true, true, true, true, true, true, true, true, true, true, true, true, true, true, true, true, true, true, true, true, false] rfl rfl (by kernel_rfl) (fun _ _ _ h => h) (Or.inl ⟨by rfl, ?_⟩) ?_ ?_
          rotate_left
          ·intro w'
           go_simp
           with_reducible rfl
          rotate_left
          ·simp only [Act.put, List.setIfInBounds_toArray, List.set_cons_zero, List.set_cons_succ, i64_w, i32_w]
           rfl
          refine pure_ (i := 26) (N := some 70) (v := ?_) (a' := ?_) #[true, true, true, true, true, true, true, true, true, true, true, true, true, true, true, true, true, true, true, true, true, true, true, true, true, true, true] rfl rfl (by kernel_rfl) (fun _ _ _ h => h) (Or.inl ⟨by rfl, ?_⟩) ?_ ?_
          rotate_left
          ·intro w'
           go_simp
           with_reducible rfl
          rotate_left
          ·simp only [Act.put, List.setIfInBounds_toArray, List.set_cons_zero, List.set_cons_succ, i64_w, i32_w]
           rfl
          refine done_ (by kernel_rfl) ?_
          clear hHeld
          go_wp2
          have hx := HX.out
          have hl := LT.out
          go_roundw
          case rel => exact ⟨i + 1, by rw [EW.out], ⟨by omega⟩, ⟨below_step BW.out B6.out⟩, HR2⟩
          case measure =>
           simp [EW.out, intOf]
           omega
         | false =>
          have hq := HLO.out
          have h1 := HR1.out
          rw [if_neg (by decide)] at h1
          rw [← h1, if_neg (by decide)] at hq
          clear h1
          obtain rfl := hq
          clear HR1 hrb
          refine pure_ (i := 24) (N := some 68) (v := ?_) (a' := ?_) #[true, true, true, true, true, true, true, true, true, true, true, true, true, true, true, true, true, true, true, true, true, true, true, true, true, false, false] rfl rfl (by kernel_rfl) (fun _ _ _ h => h) (Or.inl ⟨by rfl, ?_⟩) ?_ ?_
          rotate_left
          ·intro w'
           go_simp
           with_reducible rfl
          rotate_left
          ·simp only [Act.put, List.setIfInBounds_toArray, List.set_cons_zero, List.set_cons_succ, i64_w, i32_w]
           rfl
          refine pure_ (i := 25) (N := some 69) (v := ?_) (a' := ?_) #[true, true, true, true, true, true, true, true, true, true, true, true, true, true, true, true, true, true, true, true, true, true, true, true, true, true, false] rfl rfl (by kernel_rfl) (fun _ _ _ h => h) (Or.inl ⟨by rfl, ?_⟩) ?_ ?_
          rotate_left
          ·intro w'
           go_simp
           with_reducible rfl
          rotate_left
          ·simp only [Act.put, List.setIfInBounds_toArray, List.set_cons_zero, List.set_cons_succ, i64_w, i32_w]
           rfl
          refine pure_ (i := 26) (N := some 70) (v := ?_) (a' := ?_) #[true, true, true, true, true, true, true, true, true, true, true, true, true, true, true, true, true, true, true, true, true, true, true, true, true, true, true] rfl rfl (by kernel_rfl) (fun _ _ _ h => h) (Or.inl ⟨by rfl, ?_⟩) ?_ ?_
          rotate_left
          ·intro w'
           go_simp
           with_reducible rfl
          rotate_left
          ·simp only [Act.put, List.setIfInBounds_toArray, List.set_cons_zero, List.set_cons_succ, i64_w, i32_w]
           rfl
          refine done_ (by kernel_rfl) ?_
          clear hHeld
          go_wp2
          refine bodyPost_ret (results_none rfl _ _ _) rfl ?_
          obtain ⟨va9, bi9, bu9, hG9, _⟩ := V5.out.below B6.out
          exact ⟨rfl, ((F1.out.below B2.out).below BW.out).below B6.out, (fun s hs => by cases hs), va9, _, _, hG9⟩
     ·have e0 : (x.f0 != 1) = true := bne_iff_ne.2 hk
      have HR2 := ak_ (show lookAll s (s.all.drop (i + 1).toNat) = lookAll s s.all by have := HR0.out; rw [if_neg (fun h => hk h.1)] at this; exact this)
      clear HR0 hk
      go_wp2_with (first | ((with_reducible refine gate_dst (N := 3) rfl ?_); refine var_event (N := 3) (T := 93) (n := 5) (zc := #[.int .u8 0, .int .u32 0, .string ⟨#[]⟩, .int .u32 0, .string ⟨#[]⟩]) (cs := #[.int .u8 x.f0, .int .u32 x.f1, .string x.f2, .int .u32 x.f3, .string x.f4]) rfl rfl rfl (.tmp 25) rfl rfl ?hr (by kernel_rfl) rfl rfl rfl ?hx ?hN ?_; (case hx => intro p_; rfl); (case hN => intro p_; rfl); (case hr => first | (go_simp; done) | (go_simp; rfl)); intro gx hgx w3 hx3 hb3; have X3 := ak_ hx3; have B3 := ak_ (below_step HBW.out hb3); have y0 : w3.cell? ⟨gx, 0, none⟩ = some (.int .u8 x.f0) := (blk_cell X3.out 0).trans rfl; have y1 : w3.cell? ⟨gx, 1, none⟩ = some (.int .u32 x.f1) := (blk_cell X3.out 1).trans rfl; clear hx3 hb3 hgx q0 q1 q2 q3 q4))
      have hx := HX.out
      have hl := LT.out
      go_roundw
      case rel => exact ⟨i + 1, by rw [EW.out], ⟨by omega⟩, ⟨B3.out⟩, HR2⟩
      case measure =>
       simp [EW.out, intOf]
       omega
    ·have hge : decide (i < (s.all.length : Int)) = false := decide_eq_false hlt
     have hR := HRL.out
     rw [List.drop_eq_nil_of_le (by omega), lookAll] at hR
     have hq := HLO.out
     rw [← hR, if_pos rfl] at hq
     obtain rfl := hq
     have G9 := ak_ (blk_below G2.out HBW.out)
     have V9 := ak_ (V2.out.below HBW.out)
     have c4 : wr.cell? ⟨g, 4, none⟩ = some (.bool false) := (blk_cell G9.out 4).trans rfl
     have f4 : wr.frozen? ⟨g, 4, none⟩ = false := blk_frozen G9.out 4
     clear hR hlt hi0 hi1
     go_wp2
     go_end0
     have hv := V9.out.setR
     obtain ⟨va9, bi9, bu9, hG9, _⟩ := id hv
     exact ⟨rfl, ((F1.out.below B2.out).below HBW.out).setg 4 _, (fun s' hs => by obtain rfl := Option.some.inj hs; exact hv), va9, _, _, hG9⟩
end Go.Proofs.YtpnmajblhgnkoaaGreat.Z
end

section
namespace Go.Proofs.YtpnmajblhgnkoaaGreat.Z
attribute [local go_sem ↓] Go.wp_at_zero Go.wp_at_succ
theorem storeV (a : Addr) (x : Value) (u : FrameMode) (w : World) (hc : w.cell? a = some x) (hz : w.frozen? a = false) :
    CallsD Tryz.prog 77 #[.pointer (some a), .bool true] u w fun e u' w' => u' = u ∧ (e = .returned (.tuple #[]) ∧ w' = (w.setCell a (.int .u32 1)).drew) := by
  have hc' : w.drew.cell? a = some x := hc
  have hz' : w.drew.frozen? a = false := hz
  have hst := run_call_store (P := Tryz.prog) Tryz.func91 (by kernel_rfl) (by kernel_rfl) (by kernel_rfl) (by kernel_rfl) (k := .u32) (y := 1) hc' hz'
  go_enter_d Tryz.func77, Tryz.ntmps77
  go_wp2
  go_region_calls
  all_goals (go_end0; first | exact ⟨rfl, rfl, rfl⟩ | exact ⟨rfl, rfl⟩ | exact rfl)
set_option maxRecDepth 100000 in
set_option maxHeartbeats 1600000 in
theorem unlockV (a : Addr) (u : FrameMode) (w : World) (hc : w.cell? a = some (.int .i32 1)) (hz : w.frozen? a = false) :
    CallsD Tryz.prog 76 #[.pointer (some a)] u w fun e u' w' => u' = u ∧ (e = .returned (.tuple #[]) ∧ w' = w.setCell a (.int .i32 0)) := by
  have hd := disable
  have he := enable
  have hr := releaseMerge
  have hadd := run_call_add (P := Tryz.prog) Tryz.func107 (by kernel_rfl) (by kernel_rfl) (by kernel_rfl) .i32 (by kernel_rfl) (y := -1) (s := 0) hc hz (by simp [go_sem]; rfl)
  have hcv := run_convert_to_unsafe (P := Tryz.prog) (src := 147) (dst := 151) Tryz.underlying147 Tryz.underlying151 (by kernel_rfl) hc
  go_enter_d Tryz.func76, Tryz.ntmps76
  go_wp2
  go_end0
  go_wp2
  go_end0
  first | exact ⟨rfl, rfl, rfl⟩ | exact ⟨rfl, rfl⟩ | exact rfl
set_option maxRecDepth 100000 in
set_option maxHeartbeats 1600000 in
theorem lockV (a : Addr) (w : World) (hc : w.cell? a = some (.int .i32 0)) (hz : w.frozen? a = false) :
    Calls Tryz.prog 75 #[.pointer (some a)] w fun e w' => e = .returned (.tuple #[]) ∧ w' = w.setCell a (.int .i32 1) := by
  have hd := disable
  have he := enable
  have ha := acquire
  have hcas := run_call_cas_hit (P := Tryz.prog) Tryz.func102 (by kernel_rfl) (by kernel_rfl) (by kernel_rfl) .i32 (by kernel_rfl) (y := 1) hc hz
  have hc' : (w.setCell a (.int .i32 1)).cell? a = some (.int .i32 1) := World.cell?_setCell_same w a _ hc
  have hcv := run_convert_to_unsafe (P := Tryz.prog) (src := 147) (dst := 151) Tryz.underlying147 Tryz.underlying151 (by kernel_rfl) hc'
  go_enter Tryz.func75, Tryz.ntmps75
  go_wp2
  first | go_end0 | (simp only [Exit.inBlock, Exit.then]; refine bodyPost_ret (results_none rfl _ _ _) rfl ?_) | refine bodyPost_ret (results_none rfl _ _ _) rfl ?_
  go_wp2
  go_end0
  exact ⟨rfl, rfl⟩
theorem VolR.setJ {w : World} {g base : Nat} {it : Value} {d m sm d' m' : Int} {r : Bool} {s : VS} (j : Nat) (u : Value) (h : VolR w g base it d m sm r s)
    (he : ∀ va bi bu, (#[it, .int .u32 d, .int .i32 m, .int .u32 sm, .bool r, va, .map (some bi), .map (some bu)] : Array Value).setIfInBounds j u = #[it, .int .u32 d', .int .i32 m', .int .u32 sm, .bool r, va, .map (some bi), .map (some bu)]) : VolR (w.setCell ⟨g, j, none⟩ u) g base it d' m' sm r s := by
  obtain ⟨va, bi, bu, hG, hA, hI, hU, hbi, hbu, hne, hgb, hok⟩ := h
  refine ⟨va, bi, bu, ?_, row_setg hA hgb j _, hI.move (Below.heap_setCell _ ⟨g, j, none⟩ _ bi (by show bi ≠ g; omega)), hU.move (Below.heap_setCell _ ⟨g, j, none⟩ _ bu (by show bu ≠ g; omega)), hbi, hbu, hne, hgb, hok⟩
  have := blk_set hG j u
  rw [he va bi bu] at this
  exact this
theorem VolR.lower {w : World} {g base base' : Nat} {it : Value} {d m sm : Int} {r : Bool} {s : VS} (h : VolR w g base it d m sm r s) (hb : base' ≤ base) (hg : g < base') : VolR w g base' it d m sm r s := by
  obtain ⟨va, bi, bu, hG, hA, hI, hU, hbi, hbu, hne, hgb, hok⟩ := h
  exact ⟨va, bi, bu, hG, Kd.R_lower hA hb, hI, hU, Nat.le_trans hb hbi, Nat.le_trans hb hbu, hne, hg, hok⟩
theorem VolR.drew {w : World} {g base : Nat} {it : Value} {d m sm : Int} {r : Bool} {s : VS} (h : VolR w g base it d m sm r s) : VolR w.drew g base it d m sm r s := h.below (below_drew1 (Below.refl _ _))
set_option maxRecDepth 100000 in
set_option maxHeartbeats 3200000 in
theorem slowV (k : Nat) (g : Nat) (A : Option Addr) (c : Nat) (l : List VIT) (sm : Int) (o : Option VS) (w : World) (hb : w.heap[g]? = some (volO (.slice A l.length c) (.slice none 0 0) (.map none) (.map none) 0 0 sm false)) (hF : ∀ W', KeepBut w W' g none → Kd.C k56 W' A l.length l) (hc : l.length ≤ c) (h : lookF k l = some o) :
    Calls Tryz.prog 58 #[.pointer (some ⟨g, 1, none⟩), .func (.func 37) #[.pointer (some ⟨g, 0, none⟩)] #[]] w fun e w' => e = .returned (.tuple #[]) ∧ Fr g w w' ∧ (∀ s, o = some s → VolR w' g w.heap.size (.slice A l.length c) 1 0 sm true s) ∧ ∃ va vi vu, w'.heap[g]? = some (volO (.slice A l.length c) va vi vu 1 0 sm o.isSome) := by
  have hnot : ∀ (x : Bool) (w : World), (Op.unary .not (.bool x)).run Tryz.prog w = .ok (.bool (!x)) w := fun _ _ => rfl
  have HB := ak_ hb
  have HF := ak_ hF
  have HCC := ak_ hc
  have H := ak_ h
  have GS := ak_ (blk_lt hb)
  clear hb hF hc h
  go_enter_defers Tryz.func58, Tryz.ntmps58
  go_wp2_with (go_at_call 75; refine (lockV ⟨g, 2, none⟩ _ ((blk_cell HB.out 2).trans rfl) (blk_frozen HB.out 2)).mono ?_; rintro e w1 ⟨rfl, h1⟩; have B1 := ak_ (show w1.heap[g]? = some (volO (.slice A l.length c) (.slice none 0 0) (.map none) (.map none) 0 1 sm false) by rw [h1]; exact blk_set HB.out 2 _); have F1 := ak_ (show Fr g w w1 by rw [h1]; exact (Fr.refl g w).setg 2 _); have S1 := ak_ (show w1.heap.size = w.heap.size by rw [h1]; simp [World.setCell]); clear h1)
  go_wp2_with (first | (go_at_call 57; refine (loads_one ⟨g, 1, none⟩ 0 _ ((blk_cell B1.out 1).trans rfl)).mono ?_; rintro e w' ⟨rfl, rfl⟩) | (go_at_call 37; refine (look_calls k g A c l 0 1 sm o _ B1.out (fun W' hk => HF.out W' (F1.out.1.trans hk (.inl rfl))) HCC.out H.out).mono ?_; rintro e w2 ⟨rfl, hf2, hv2, hb2⟩; have F2 := ak_ (F1.out.trans hf2); have V2 := ak_ (fun s hs => (hv2 s hs).lower (Nat.le_of_eq S1.out.symm) GS.out); have B2 := ak_ hb2; clear hf2 hv2 hb2))
  obtain ⟨va, vi, vu, hB2⟩ := B2.out
  have C2 := ak_ hB2
  clear hB2
  refine leaves_cons (f := 77) (args := #[.pointer (some ⟨g, 1, none⟩), .bool true]) (by simp) (by simp [go_sem]) ?_
  refine (storeV ⟨g, 1, none⟩ (.int .u32 0) .returning _ ((blk_cell C2.out 1).trans rfl) (blk_frozen C2.out 1)).mono ?_
  rintro e u' w3 ⟨rfl, rfl, h3⟩
  have C3 := ak_ (show w3.heap[g]? = some (volO (.slice A l.length c) va vi vu 1 1 sm o.isSome) by rw [h3]; exact blk_drew (blk_set C2.out 1 _))
  have F3 := ak_ (show Fr g w w3 by rw [h3]; exact (F2.out.setg 1 _).below (below_drew1 (Below.refl _ _)))
  have V3 := ak_ (show ∀ s, o = some s → VolR w3 g w.heap.size (.slice A l.length c) 1 1 sm true s from fun s hs => by rw [h3]; exact (VolR.setJ 1 (.int .u32 1) (V2.out s hs) (fun _ _ _ => rfl)).drew)
  clear h3 V2 F2 B2 C2
  refine leaves_cons (f := 76) (args := #[.pointer (some ⟨g, 2, none⟩)]) (by simp [settle]) (by simp [go_sem]) ?_
  refine (unlockV ⟨g, 2, none⟩ _ _ ((blk_cell C3.out 2).trans rfl) (blk_frozen C3.out 2)).mono ?_
  rintro e u' w4 ⟨rfl, rfl, h4⟩
  have P4 : Aside0 (Fr g w w4 ∧ (∀ s, o = some s → VolR w4 g w.heap.size (.slice A l.length c) 1 0 sm true s) ∧ ∃ va vi vu, w4.heap[g]? = some (volO (.slice A l.length c) va vi vu 1 0 sm o.isSome)) :=
    ⟨by rw [h4]; exact F3.out.setg 2 _, fun s hs => by rw [h4]; exact VolR.setJ 2 (.int .i32 0) (V3.out s hs) (fun _ _ _ => rfl), va, vi, vu, by rw [h4]; exact blk_set C3.out 2 _⟩
  clear h4 V3 F3 C3 HB HF HCC H GS B1 F1 S1
  have P5 := P4.out
  generalize hP : (Fr g w w4 ∧ (∀ s, o = some s → VolR w4 g w.heap.size (.slice A l.length c) 1 0 sm true s) ∧ ∃ va vi vu, w4.heap[g]? = some (volO (.slice A l.length c) va vi vu 1 0 sm o.isSome)) = P at P5
  simp [Leaves, settle, results, Tryz.results58]
  rw [hP]
  exact P5
set_option maxRecDepth 100000 in
set_option maxHeartbeats 1600000 in
theorem right_calls (k : Nat) (g : Nat) (A : Option Addr) (c : Nat) (l : List VIT) (sm : Int) (o : Option VS) (w : World) (hb : w.heap[g]? = some (volO (.slice A l.length c) (.slice none 0 0) (.map none) (.map none) 0 0 sm false)) (hF : ∀ W', KeepBut w W' g none → Kd.C k56 W' A l.length l) (hc : l.length ≤ c) (h : lookF k l = some o) :
    Calls Tryz.prog 19 #[.pointer (some ⟨g, 0, none⟩)] w fun e w' => e = .returned (.bool o.isSome) ∧ Fr g w w' ∧ (∀ s, o = some s → VolR w' g w.heap.size (.slice A l.length c) 1 0 sm true s) := by
  have hnot : ∀ (x : Bool) (w : World), (Op.unary .not (.bool x)).run Tryz.prog w = .ok (.bool (!x)) w := fun _ _ => rfl
  have hmf : ∀ (fn : Fn) (first cap : Array Value) (w : World), (Instr.makeFunc fn first cap).run Tryz.prog w = .ok (.func fn first cap) w := fun _ _ _ _ => rfl
  have HB := ak_ hb
  have HS := ak_ (slowV k g A c l sm o w hb hF hc h)
  clear hb hF hc h
  go_enter Tryz.func19, Tryz.ntmps19
  go_wp2_with (first
    | (go_at_call 36; go_in)
    | (go_at_call 57; refine (loads_one ⟨g, 1, none⟩ 0 _ ((blk_cell HB.out 1).trans rfl)).mono ?_; rintro e w' ⟨rfl, rfl⟩)
    | (go_at_call 58; refine HS.out.mono ?_; rintro e w1 ⟨rfl, hf1, hv1, hb1⟩; have F1 := ak_ hf1; have V1 := ak_ hv1; obtain ⟨va, vi, vu, hg1⟩ := hb1; have q4 : w1.cell? ⟨g, 4, none⟩ = some (.bool o.isSome) := (blk_cell hg1 4).trans rfl; clear hf1 hv1 hg1))
  go_end0
  go_wp2
  go_ret
  exact ⟨rfl, F1.out, V1.out⟩
end Go.Proofs.YtpnmajblhgnkoaaGreat.Z
end

section
namespace Go.Proofs.YtpnmajblhgnkoaaGreat.Z
attribute [local go_sem] max2_int min2_int max_two min_two max_three min_three max_four min_four   -- for this text's walks alone
def cmp_isNaN_string.f (a0 : ByteArray) : Option (Bool) := some (a0.toList != a0.toList)
set_option maxHeartbeats 8000000 in
set_option maxRecDepth 100000 in
theorem cmp_isNaN_string.calls (a0 : ByteArray) (r : Bool) (w : World) (h : cmp_isNaN_string.f a0 = some r) :
  Calls Tryz.prog 110 #[.string a0] w fun e w' => e = .returned (.bool r) ∧ Drawn0 w w' := by
 have H : (some (a0.toList != a0.toList)) = some r := h
 clear h
 obtain rfl := Option.some.inj H
 go_enter Tryz.func110, Tryz.ntmps110
 go_wp2
 go_ret
 exact ⟨by first | rfl | (simp; done) | (simp [*]; done), by repeat (first | exact Drawn0.refl _ | apply Drawn0.step)⟩
def cmp_Compare_string.f (a0 : ByteArray) (a1 : ByteArray) : Option (Int) := (cmp_isNaN_string.f a0).bind fun t139 => ((cmp_isNaN_string.f a1).bind fun t140 => (if t139 = true then (if t140 = true then (some 0) else (some (-1))) else (if t140 = true then (some 1) else (if (Op.bytesLess a0.toList a1.toList) = true then (some (-1)) else (if (Op.bytesLess a1.toList a0.toList) = true then (some 1) else (some 0))))))
set_option maxHeartbeats 64000000 in
set_option maxRecDepth 100000 in
theorem cmp_Compare_string.calls (a0 : ByteArray) (a1 : ByteArray) (r : Int) (w : World) (h : cmp_Compare_string.f a0 a1 = some r) :
  Calls Tryz.prog 98 #[.string a0, .string a1] w fun e w' => e = .returned (.int .i64 r) ∧ Drawn0 w w' := by
 have H : ((cmp_isNaN_string.f a0).bind fun t139 => ((cmp_isNaN_string.f a1).bind fun t140 => (if t139 = true then (if t140 = true then (some 0) else (some (-1))) else (if t140 = true then (some 1) else (if (Op.bytesLess a0.toList a1.toList) = true then (some (-1)) else (if (Op.bytesLess a1.toList a0.toList) = true then (some 1) else (some 0))))))) = some r := h
 clear h
 replace H := Option.bind_eq_some_iff.mp H
 obtain ⟨t139, A30, H⟩ := H
 try dsimp only at H
 have A3 := ak_ A30
 clear A30
 replace H := Option.bind_eq_some_iff.mp H
 obtain ⟨t140, A40, H⟩ := H
 try dsimp only at H
 have A4 := ak_ A40
 clear A40
 refine Or.elim (Classical.em (t139 = true)) (fun c5 => ?p1_) (fun c5 => ?n1_)
 case' p1_ =>
  subst c5
  rw [if_pos rfl] at H
  refine Or.elim (Classical.em (t140 = true)) (fun c6 => ?p2_) (fun c6 => ?n2_)
  case' p2_ =>
   subst c6
   rw [if_pos rfl] at H
   obtain rfl := Option.some.inj H
   refine ?z1_
  case' n2_ =>
   replace c6 := Bool.eq_false_iff.mpr c6
   subst c6
   rw [if_neg (show ¬ (false = true) by decide)] at H
   obtain rfl := Option.some.inj H
   refine ?z2_
 case' n1_ =>
  replace c5 := Bool.eq_false_iff.mpr c5
  subst c5
  rw [if_neg (show ¬ (false = true) by decide)] at H
  refine Or.elim (Classical.em (t140 = true)) (fun c7 => ?p3_) (fun c7 => ?n3_)
  case' p3_ =>
   subst c7
   rw [if_pos rfl] at H
   obtain rfl := Option.some.inj H
   refine ?z3_
  case' n3_ =>
   replace c7 := Bool.eq_false_iff.mpr c7
   subst c7
   rw [if_neg (show ¬ (false = true) by decide)] at H
   refine Or.elim (Classical.em ((Op.bytesLess a0.toList a1.toList) = true)) (fun c8 => ?p4_) (fun c8 => ?n4_)
   case' p4_ =>
    rw [if_pos c8] at H
    have c8b0 : (Op.bytesLess a0.toList a1.toList) = true := c8
    clear c8
    obtain rfl := Option.some.inj H
    refine ?z4_
   case' n4_ =>
    rw [if_neg c8] at H
    have c8b0 : (Op.bytesLess a0.toList a1.toList) = false := by simpa using c8
    clear c8
    refine Or.elim (Classical.em ((Op.bytesLess a1.toList a0.toList) = true)) (fun c9 => ?p5_) (fun c9 => ?n5_)
    case' p5_ =>
     rw [if_pos c9] at H
     have c9b0 : (Op.bytesLess a1.toList a0.toList) = true := c9
     clear c9
     obtain rfl := Option.some.inj H
     refine ?z5_
    case' n5_ =>
     rw [if_neg c9] at H
     have c9b0 : (Op.bytesLess a1.toList a0.toList) = false := by simpa using c9
     clear c9
     obtain rfl := Option.some.inj H
     refine ?z6_
 case p2_ | n2_ | p3_ | p4_ | p5_ | n5_ =>
  go_enter Tryz.func98, Tryz.ntmps98
  go_wp2_with (first | ((with_reducible refine gate_callee (f := 110) rfl ?_); refine gl_ (some 8) Tryz.func110 #[.string a0] ?_; (with_reducible refine (cmp_isNaN_string.calls a0 false _ A3.out).mono ?_); rintro e w' ⟨rfl, ⟨nd, rfl⟩⟩; refine ⟨_, rfl, ?_⟩) | ((with_reducible refine gate_callee (f := 110) rfl ?_); refine gl_ (some 10) Tryz.func110 #[.string a1] ?_; (with_reducible refine (cmp_isNaN_string.calls a1 false _ A4.out).mono ?_); rintro e w' ⟨rfl, ⟨nd, rfl⟩⟩; refine ⟨_, rfl, ?_⟩) | ((with_reducible refine gate_callee (f := 110) rfl ?_); refine gl_ (some 8) Tryz.func110 #[.string a0] ?_; (with_reducible refine (cmp_isNaN_string.calls a0 true _ A3.out).mono ?_); rintro e w' ⟨rfl, ⟨nd, rfl⟩⟩; refine ⟨_, rfl, ?_⟩) | ((with_reducible refine gate_callee (f := 110) rfl ?_); refine gl_ (some 10) Tryz.func110 #[.string a1] ?_; (with_reducible refine (cmp_isNaN_string.calls a1 true _ A4.out).mono ?_); rintro e w' ⟨rfl, ⟨nd, rfl⟩⟩; refine ⟨_, rfl, ?_⟩))
  go_ret
  exact ⟨by first | rfl | (simp; done) | (simp [*]; done), by repeat (first | exact Drawn0.refl _ | apply Drawn0.step)⟩
def item_place_1.f (a0_0 : ByteArray) (a0_1 : ByteArray) (a1 : ByteArray) : Option (Int) := (cmp_Compare_string.f a0_0 a1).bind fun t142 => (some t142)
set_option maxHeartbeats 8000000 in
set_option maxRecDepth 100000 in
theorem item_place_1.calls (a0_0 : ByteArray) (a0_1 : ByteArray) (a1 : ByteArray) (r : Int) (w : World) (h : item_place_1.f a0_0 a0_1 a1 = some r) :
  Calls Tryz.prog 97 #[.agg #[.string a0_0, .string a0_1], .string a1] w fun e w' => e = .returned (.int .i64 r) ∧ Below w.heap.size w w' := by
 have hu56 := Tryz.underlying56
 have HB := ak_ (Below.refl w.heap.size w)
 have H : ((cmp_Compare_string.f a0_0 a1).bind fun t142 => (some t142)) = some r := h
 clear h
 replace H := Option.bind_eq_some_iff.mp H
 obtain ⟨t142, A30, H⟩ := H
 try dsimp only at H
 have A3 := ak_ A30
 clear A30
 obtain rfl := Option.some.inj H
 go_enter Tryz.func97, Tryz.ntmps97
 go_wp2_with (first | ((with_reducible refine gate_dst (N := 2) rfl ?_); refine bx_ (N := 2) (cs := #[.string a0_0, .string a0_1]) (t := 56) ?_; intro gb141 hg w4 hbox hb; have BK141 := ak_ (hbox); have GW141 := ge_ hg; have GE141 := ge_ hg; replace HB := hb_ hb; clear hb hbox hg; obtain ⟨hcz5_0, hcz5_1⟩ := cl2_ BK141; obtain ⟨hfz5_0, hfz5_1⟩ := fz2_ BK141) | ((with_reducible refine gate_callee (f := 98) rfl ?_); refine gl_ (some 8) Tryz.func98 #[.string a0_0, .string a1] ?_; (with_reducible refine (cmp_Compare_string.calls a0_0 a1 t142 _ A3.out).mono ?_); rintro e w' ⟨rfl, ⟨nd, rfl⟩⟩; refine ⟨_, rfl, ?_⟩))
 go_ret
 exact ⟨by first | rfl | (simp [errW_none, errW_some] <;> rfl) | (simp [*, errW_none, errW_some] <;> rfl), bel_⟩
def slices_BinarySearchFunc_api_Item_api_Item_string_fn97.l0 : Nat → List (S56) → ByteArray → Int → Int → Int → Option (Int × Bool)
 | 0, _, _, _, _, _ => none
 | k + 1, x0, x1, x8, x9, x10 => if x9 < x10 then (if 0 ≤ (wrap64 ((IntKind.u64.wrap (wrap64 (x9 + x10))) / 2)) then (if (wrap64 ((IntKind.u64.wrap (wrap64 (x9 + x10))) / 2)) < (x0.length : Int) then ((item_place_1.f ((rd_T56 x0 (wrap64 ((IntKind.u64.wrap (wrap64 (x9 + x10))) / 2))).f0) ((rd_T56 x0 (wrap64 ((IntKind.u64.wrap (wrap64 (x9 + x10))) / 2))).f1) x1).bind fun t144 => (if t144 < 0 then (slices_BinarySearchFunc_api_Item_api_Item_string_fn97.l0 k x0 x1 x8 (wrap64 ((wrap64 ((IntKind.u64.wrap (wrap64 (x9 + x10))) / 2)) + 1)) x10) else (slices_BinarySearchFunc_api_Item_api_Item_string_fn97.l0 k x0 x1 x8 x9 (wrap64 ((IntKind.u64.wrap (wrap64 (x9 + x10))) / 2))))) else (none)) else (none)) else (if x9 < x8 then (if 0 ≤ x9 then (if x9 < (x0.length : Int) then ((item_place_1.f ((rd_T56 x0 x9).f0) ((rd_T56 x0 x9).f1) x1).bind fun t146 => (some (x9, (t146 == 0)))) else (none)) else (none)) else (some (x9, false)))
def slices_BinarySearchFunc_api_Item_api_Item_string_fn97.f (k : Nat) (l0 : List (S56)) (a1 : ByteArray)  : Option (Int × Bool) := slices_BinarySearchFunc_api_Item_api_Item_string_fn97.l0 k l0 a1 (l0.length : Int) 0 (l0.length : Int)
theorem slices_BinarySearchFunc_api_Item_api_Item_string_fn97.mono_l : ∀ k, (∀ y0 y1 y2 y3 y4, LeO (slices_BinarySearchFunc_api_Item_api_Item_string_fn97.l0 k y0 y1 y2 y3 y4) (slices_BinarySearchFunc_api_Item_api_Item_string_fn97.l0 (k + 1) y0 y1 y2 y3 y4))
 | 0 => by intros; intro r h; simp [slices_BinarySearchFunc_api_Item_api_Item_string_fn97.l0] at h
 | k + 1 => by
  have ih0 := slices_BinarySearchFunc_api_Item_api_Item_string_fn97.mono_l k
  intros
  unfold slices_BinarySearchFunc_api_Item_api_Item_string_fn97.l0
  repeat' (first | (with_reducible first | exact ih0 _ _ _ _ _ | exact LeO.refl _ | exact LeO.none _ | refine LeO.ite ?_ ?_ | refine LeO.bind ?_ (fun _ => ?_)))
theorem slices_BinarySearchFunc_api_Item_api_Item_string_fn97.mono : ∀ a0 a1 k, LeO (slices_BinarySearchFunc_api_Item_api_Item_string_fn97.f k a0 a1) (slices_BinarySearchFunc_api_Item_api_Item_string_fn97.f (k + 1) a0 a1) := by
 intro a0 a1 k
 have ih0 := slices_BinarySearchFunc_api_Item_api_Item_string_fn97.mono_l k
 unfold slices_BinarySearchFunc_api_Item_api_Item_string_fn97.f
 repeat' (first | (with_reducible first | exact ih0 _ _ _ _ _ | exact LeO.refl _ | exact LeO.none _ | refine LeO.ite ?_ ?_ | refine LeO.bind ?_ (fun _ => ?_)))
set_option maxHeartbeats 64000000 in
set_option maxRecDepth 100000 in
theorem slices_BinarySearchFunc_api_Item_api_Item_string_fn97.calls (k : Nat) (A0 : Option Addr) (c0 : Nat) (l0 : List (S56)) (a1 : ByteArray)  (r1 : Int) (r2 : Bool) (w : World) (hr0 : Kd.C k56 w A0 l0.length l0) (hc0 : l0.length ≤ c0) (h : slices_BinarySearchFunc_api_Item_api_Item_string_fn97.f k l0 a1 = some (r1, r2)) :
  Calls Tryz.prog 96 #[.slice A0 l0.length c0, .string a1, .func (.func 97) #[] #[]] w fun e w' => e = .returned (.tuple #[.int .i64 r1, .bool r2]) ∧ Below w.heap.size w w' := by
 have hu56 := Tryz.underlying56
 have HR0 := ak_ hr0
 have HC0 := ak_ hc0
 clear hr0 hc0
 have HB := ak_ (Below.refl w.heap.size w)
 have H : (slices_BinarySearchFunc_api_Item_api_Item_string_fn97.l0 k l0 a1 (l0.length : Int) 0 (l0.length : Int)) = some (r1, r2) := h
 clear h
 have H' := ak_ H
 clear H
 go_enter Tryz.func96, Tryz.ntmps96
 go_wp2
 go_loopg [9, 10] k (fun kq v9 v10 w' => ∃ (x9_1 : Int) (x10_1 : Int), v9 = .int .i64 x9_1 ∧ v10 = .int .i64 x10_1 ∧ Aside0 (slices_BinarySearchFunc_api_Item_api_Item_string_fn97.l0 kq l0 a1 (l0.length : Int) x9_1 x10_1 = some (r1, r2)) ∧ Aside0 (kq ≤ k) ∧ Aside0 (Below w.heap.size w w'))
 case atStart => exact ⟨(0), ((l0.length : Int)), (by first | rfl | (simp; done) | (simp [*]; done)), (by first | rfl | (simp; done) | (simp [*]; done)), H', ⟨Nat.le_refl _⟩, ⟨bel_⟩⟩
 case round =>
  clear H'
  try clear p2
  obtain ⟨x9_1, x10_1, rfl, rfl, HA, HK1, HB⟩ := hrel
  cases gk with
  | zero => exact absurd HA.out (by simp [slices_BinarySearchFunc_api_Item_api_Item_string_fn97.l0])
  | succ k1 =>
   have H := HA.out
   clear HA
   simp only [slices_BinarySearchFunc_api_Item_api_Item_string_fn97.l0] at H
   refine Or.elim (Classical.em (x9_1 < x10_1)) (fun c4 => ?p1_) (fun c4 => ?n1_)
   case' p1_ =>
    rw [if_pos c4] at H
    have c4b0 : decide (x9_1 < x10_1) = true := decide_eq_true c4
    clear c4
    obtain ⟨ji5, hji5⟩ : ∃ j_ : Int, (wrap64 ((IntKind.u64.wrap (wrap64 (x9_1 + x10_1))) / 2)) = j_ := ⟨_, rfl⟩
    replace H : (if 0 ≤ (ji5) then (if (ji5) < (l0.length : Int) then ((item_place_1.f ((rd_T56 l0 (ji5)).f0) ((rd_T56 l0 (ji5)).f1) a1).bind fun t144 => (if t144 < 0 then (slices_BinarySearchFunc_api_Item_api_Item_string_fn97.l0 k1 l0 a1 (l0.length : Int) (wrap64 ((ji5) + 1)) x10_1) else (slices_BinarySearchFunc_api_Item_api_Item_string_fn97.l0 k1 l0 a1 (l0.length : Int) x9_1 ji5))) else (none)) else (none)) = some (r1, r2) := by first | (rw [hji5] at H; exact H) | (simp only [hji5] at H ⊢; exact H)
    have hji5w : (IntKind.i64.wrap ((IntKind.u64.wrap (wrap64 (x9_1 + x10_1))) / 2)) = ji5 := (i64_w _).trans hji5
    refine Or.elim (Classical.em (0 ≤ (ji5))) (fun c6 => ?p2_) (fun c6 => ?n2_)
    case' p2_ =>
     rw [if_pos c6] at H
     have c6b0 : decide (0 ≤ (ji5)) = true := decide_eq_true c6
     clear c6
     refine Or.elim (Classical.em ((ji5) < (l0.length : Int))) (fun c7 => ?p3_) (fun c7 => ?n3_)
     case' p3_ =>
      rw [if_pos c7] at H
      have c7b0 : decide ((ji5) < (l0.length : Int)) = true := decide_eq_true c7
      clear c7
      replace H := Option.bind_eq_some_iff.mp H
      obtain ⟨t144, A80, H⟩ := H
      try dsimp only at H
      have A8 := ak_ A80
      clear A80
      refine Or.elim (Classical.em (t144 < 0)) (fun c9 => ?p4_) (fun c9 => ?n4_)
      case' p4_ =>
       rw [if_pos c9] at H
       have c9b0 : decide (t144 < 0) = true := decide_eq_true c9
       clear c9
       refine ?z1_
      case' n4_ =>
       rw [if_neg c9] at H
       have c9b0 : decide (t144 < 0) = false := decide_eq_false c9
       clear c9
       refine ?z2_
     case n3_ =>
      rw [if_neg c7] at H
      exact absurd H (by simp)
    case n2_ =>
     rw [if_neg c6] at H
     exact absurd H (by simp)
   case n1_ =>
    rw [if_neg c4] at H
    have c4b0 : decide (x9_1 < x10_1) = false := decide_eq_false c4
    clear c4
    by_cases c12 : x9_1 < (l0.length : Int)
    ·rw [if_pos c12] at H
     have c12b0 : decide (x9_1 < (l0.length : Int)) = true := decide_eq_true c12
     clear c12
     by_cases c13 : 0 ≤ x9_1
     ·rw [if_pos c13] at H
      have c13b0 : decide (0 ≤ x9_1) = true := decide_eq_true c13
      clear c13
      by_cases c14 : x9_1 < (l0.length : Int)
      ·rw [if_pos c14] at H
       have c14b0 : decide (x9_1 < (l0.length : Int)) = true := decide_eq_true c14
       clear c14
       replace H := Option.bind_eq_some_iff.mp H
       obtain ⟨t146, A150, H⟩ := H
       try dsimp only at H
       have A15 := ak_ A150
       clear A150
       simp only [Option.some.injEq, Prod.mk.injEq] at H
       obtain ⟨rfl, rfl⟩ := H
       have p145 : 0 ≤ (x9_1 : Int) := of_decide_eq_true (by first | (with_reducible assumption) | assumption)
       have q145 : x9_1 < (l0.length : Int) := of_decide_eq_true (by first | (with_reducible assumption) | assumption)
       obtain ⟨ad145, e145, hx145_0, hx145_1⟩ := at_T56 HR0.out x9_1 p145 q145
       cases e145
       replace hx145_0 := (HB.out.cell (World.block_lt_of_cell? w _ hx145_0)).trans hx145_0
       replace hx145_1 := (HB.out.cell (World.block_lt_of_cell? w _ hx145_1)).trans hx145_1
       replace p145 := eq_true p145
       replace q145 := eq_true q145
       go_wp2_with (first | (go_at_call 97; (with_reducible refine (item_place_1.calls ((rd_T56 l0 x9_1).f0) ((rd_T56 l0 x9_1).f1) a1 t146 _ A15.out).mono ?_); rintro e w16 ⟨rfl, hb⟩; replace HB := hb_ hb; (try clear hb)))
       go_ret2
       exact ⟨by first | rfl | (simp [errW_none, errW_some] <;> rfl) | (simp [*, errW_none, errW_some] <;> rfl), bel_⟩
      rw [if_neg c14] at H
      exact absurd H (by simp)
     rw [if_neg c13] at H
     exact absurd H (by simp)
    rw [if_neg c12] at H
    have c12b0 : decide (x9_1 < (l0.length : Int)) = false := decide_eq_false c12
    clear c12
    simp only [Option.some.injEq, Prod.mk.injEq] at H
    obtain ⟨rfl, rfl⟩ := H
    go_wp2
    go_ret2
    exact ⟨by first | rfl | (simp [errW_none, errW_some] <;> rfl) | (simp [*, errW_none, errW_some] <;> rfl), bel_⟩
   case p4_ | n4_ =>
    have H' := ak_ H
    clear H
    have p143 : 0 ≤ ((ji5) : Int) := of_decide_eq_true (by first | (with_reducible assumption) | assumption)
    have q143 : (ji5) < (l0.length : Int) := of_decide_eq_true (by first | (with_reducible assumption) | assumption)
    obtain ⟨ad143, e143, hx143_0, hx143_1⟩ := at_T56 HR0.out (ji5) p143 q143
    cases e143
    replace hx143_0 := (HB.out.cell (World.block_lt_of_cell? w _ hx143_0)).trans hx143_0
    replace hx143_1 := (HB.out.cell (World.block_lt_of_cell? w _ hx143_1)).trans hx143_1
    replace p143 := eq_true p143
    replace q143 := eq_true q143
    go_wp2_with (first | ((with_reducible refine gate_dyn rfl ?_); refine goesD_ (some 30) rfl rfl Tryz.func97 (by kernel_rfl) rfl #[.agg #[.string ((rd_T56 l0 (ji5)).f0), .string ((rd_T56 l0 (ji5)).f1)], .string a1] rfl rfl (by (try simp only [List.map_toArray, List.map_cons, List.map_nil]); first | done | (simp only [hji5]; rfl) | rfl | (simp only [List.length_drop, List.length_take]; rfl)) ?_; (with_reducible refine (item_place_1.calls ((rd_T56 l0 (ji5)).f0) ((rd_T56 l0 (ji5)).f1) a1 t144 _ A8.out).mono ?_); rintro e w901 ⟨rfl, hb⟩; refine ⟨_, rfl, ?_⟩; replace HB := hb_ hb; (try clear hb)))
    go_roundg k1
    case measure => have := HK1.out; omega
    case rel => first | (exact ⟨(wrap64 ((ji5) + 1)), (x10_1), (by first | rfl | (simp; done) | (simp only [← hji5] <;> (first | rfl | simp)) | (simp [*]; done)), (by first | rfl | (simp; done) | (simp [*]; done)), H', ⟨by have := HK1.out; omega⟩, ⟨bel_⟩⟩) | (exact ⟨(x9_1), (ji5), (by first | rfl | (simp; done) | (simp [*]; done)), (by first | rfl | (simp; done) | (simp only [← hji5] <;> (first | rfl | simp)) | (simp [*]; done)), H', ⟨by have := HK1.out; omega⟩, ⟨bel_⟩⟩)
def item_place.f (k : Nat) (l0 : List (S56)) (a1 : ByteArray) : Option (Int × Bool) := (slices_BinarySearchFunc_api_Item_api_Item_string_fn97.f k l0 a1).bind fun bt147 => (some (bt147.1, bt147.2))
theorem item_place.mono : ∀ a0 a1 k, LeO (item_place.f k a0 a1) (item_place.f (k + 1) a0 a1) := by
 intro a0 a1 k
 unfold item_place.f
 repeat' (first | (with_reducible first | exact slices_BinarySearchFunc_api_Item_api_Item_string_fn97.mono _ _ _ | exact LeO.refl _ | exact LeO.none _ | refine LeO.ite ?_ ?_ | refine LeO.bind ?_ (fun _ => ?_)))
set_option maxHeartbeats 8000000 in
set_option maxRecDepth 100000 in
theorem item_place.calls (k : Nat) (A0 : Option Addr) (c0 : Nat) (l0 : List (S56)) (a1 : ByteArray) (r1 : Int) (r2 : Bool) (w : World) (hr0 : Kd.C k56 w A0 l0.length l0) (hc0 : l0.length ≤ c0) (h : item_place.f k l0 a1 = some (r1, r2)) :
  Calls Tryz.prog 83 #[.slice A0 l0.length c0, .string a1] w fun e w' => e = .returned (.tuple #[.int .i64 r1, .bool r2]) ∧ Below w.heap.size w w' := by
 have HR0 := ak_ hr0
 have HC0 := ak_ hc0
 clear hr0 hc0
 have HB := ak_ (Below.refl w.heap.size w)
 have H : ((slices_BinarySearchFunc_api_Item_api_Item_string_fn97.f k l0 a1).bind fun bt147 => (some (bt147.1, bt147.2))) = some (r1, r2) := h
 clear h
 replace H := Option.bind_eq_some_iff.mp H
 obtain ⟨⟨t147, t148⟩, A30, H⟩ := H
 try dsimp only at H
 have A3 := ak_ A30
 clear A30
 simp only [Option.some.injEq, Prod.mk.injEq] at H
 obtain ⟨rfl, rfl⟩ := H
 go_enter Tryz.func83, Tryz.ntmps83
 go_wp2_with (first | ((with_reducible refine gate_callee (f := 96) rfl ?_); refine gl_ (some 8) Tryz.func96 #[.slice A0 l0.length c0, .string a1, .func (.func 97) #[] #[]] ?_; (with_reducible refine (slices_BinarySearchFunc_api_Item_api_Item_string_fn97.calls k _ _ l0 a1 t147 t148 _ ?side1 ?side2 A3.out).mono ?_); (case side1 => repeat (first | exact HR0.out | (with_reducible refine Kd.C_alloc ?_ _) | (with_reducible refine Kd.C_drewN ?_ _) | (with_reducible refine Kd.C_drew ?_))); (case side2 => exact HC0.out); rintro e w4 ⟨rfl, hb⟩; refine ⟨_, rfl, ?_⟩; replace HB := hb_ hb; (try clear hb)))
 go_ret2
 exact ⟨by first | rfl | (simp [errW_none, errW_some] <;> rfl) | (simp [*, errW_none, errW_some] <;> rfl), bel_⟩
def item_Get.f (k : Nat) (l0 : List (S56)) (a1 : ByteArray) : Option (ByteArray × Int) := (item_Check.f k l0).bind fun t149 => (if t149 = 0 then ((item_place.f k l0 a1).bind fun bt150 => (if bt150.2 = true then (if 0 ≤ bt150.1 then (if bt150.1 < (l0.length : Int) then (some ((rd_T56 l0 bt150.1).f1, 0)) else (none)) else (none)) else (some ((⟨#[]⟩ : ByteArray), 5)))) else (some ((⟨#[]⟩ : ByteArray), t149)))
theorem item_Get.mono : ∀ a0 a1 k, LeO (item_Get.f k a0 a1) (item_Get.f (k + 1) a0 a1) := by
 intro a0 a1 k
 unfold item_Get.f
 repeat' (first | (with_reducible first | exact item_Check.mono _ _ | exact item_place.mono _ _ _ | exact LeO.refl _ | exact LeO.none _ | refine LeO.ite ?_ ?_ | refine LeO.bind ?_ (fun _ => ?_)))
set_option maxHeartbeats 64000000 in
set_option maxRecDepth 100000 in
theorem item_Get.calls (k : Nat) (A0 : Option Addr) (c0 : Nat) (l0 : List (S56)) (a1 : ByteArray) (r1 : ByteArray) (r2 : Int) (w : World) (hr0 : Kd.C k56 w A0 l0.length l0) (hc0 : l0.length ≤ c0) (h : item_Get.f k l0 a1 = some (r1, r2)) :
  Calls Tryz.prog 63 #[.slice A0 l0.length c0, .string a1] w fun e w' => e = .returned (.tuple #[.string r1, .int .i64 r2]) ∧ Below w.heap.size w w' := by
 have HR0 := ak_ hr0
 have HC0 := ak_ hc0
 clear hr0 hc0
 have HB := ak_ (Below.refl w.heap.size w)
 have H : ((item_Check.f k l0).bind fun t149 => (if t149 = 0 then ((item_place.f k l0 a1).bind fun bt150 => (if bt150.2 = true then (if 0 ≤ bt150.1 then (if bt150.1 < (l0.length : Int) then (some ((rd_T56 l0 bt150.1).f1, 0)) else (none)) else (none)) else (some ((⟨#[]⟩ : ByteArray), 5)))) else (some ((⟨#[]⟩ : ByteArray), t149)))) = some (r1, r2) := h
 clear h
 replace H := Option.bind_eq_some_iff.mp H
 obtain ⟨t149, A30, H⟩ := H
 try dsimp only at H
 have A3 := ak_ A30
 clear A30
 refine Or.elim (Classical.em (t149 = 0)) (fun c4 => ?p1_) (fun c4 => ?n1_)
 case' p1_ =>
  rw [if_pos c4] at H
  have c4b0 : (t149 == 0) = true := beq_iff_eq.mpr c4
  have c4b1 : (t149 != 0) = false := bne_eq_false_iff_eq.mpr c4
  clear c4
  replace H := Option.bind_eq_some_iff.mp H
  obtain ⟨⟨t150, t151⟩, A50, H⟩ := H
  try dsimp only at H
  have A5 := ak_ A50
  clear A50
  refine Or.elim (Classical.em (t151 = true)) (fun c6 => ?p2_) (fun c6 => ?n2_)
  case' p2_ =>
   subst c6
   rw [if_pos rfl] at H
   refine Or.elim (Classical.em (0 ≤ t150)) (fun c7 => ?p3_) (fun c7 => ?n3_)
   case' p3_ =>
    rw [if_pos c7] at H
    have c7b0 : decide (0 ≤ t150) = true := decide_eq_true c7
    clear c7
    refine Or.elim (Classical.em (t150 < (l0.length : Int))) (fun c8 => ?p4_) (fun c8 => ?n4_)
    case' p4_ =>
     rw [if_pos c8] at H
     have c8b0 : decide (t150 < (l0.length : Int)) = true := decide_eq_true c8
     clear c8
     simp only [Option.some.injEq, Prod.mk.injEq] at H
     obtain ⟨rfl, rfl⟩ := H
     refine ?z1_
    case n4_ =>
     rw [if_neg c8] at H
     exact absurd H (by simp)
   case n3_ =>
    rw [if_neg c7] at H
    exact absurd H (by simp)
  case' n2_ =>
   replace c6 := Bool.eq_false_iff.mpr c6
   subst c6
   rw [if_neg (show ¬ (false = true) by decide)] at H
   simp only [Option.some.injEq, Prod.mk.injEq] at H
   obtain ⟨rfl, rfl⟩ := H
   refine ?z2_
 case' n1_ =>
  rw [if_neg c4] at H
  have c4b0 : (t149 == 0) = false := beq_eq_false_iff_ne.mpr c4
  have c4b1 : (t149 != 0) = true := bne_iff_ne.mpr c4
  simp only [Option.some.injEq, Prod.mk.injEq] at H
  obtain ⟨rfl, rfl⟩ := H
  refine ?z3_
 case p2_ | n2_ | n1_ =>
  go_enter Tryz.func63, Tryz.ntmps63
  go_wp2_with (first | ((with_reducible refine gate_callee (f := 80) rfl ?_); refine gl_ (some 10) Tryz.func80 #[.slice A0 l0.length c0] ?_; (with_reducible refine (item_Check.calls k _ _ l0 t149 _ ?side1 ?side2 A3.out).mono ?_); (case side1 => repeat (first | exact HR0.out | (with_reducible refine Kd.C_alloc ?_ _) | (with_reducible refine Kd.C_drewN ?_ _) | (with_reducible refine Kd.C_drew ?_))); (case side2 => exact HC0.out); rintro e w901 ⟨rfl, hb⟩; refine ⟨_, rfl, ?_⟩; replace HB := hb_ hb; (try clear hb)) | ((with_reducible refine gate_callee (f := 83) rfl ?_); refine gl_ (some 17) Tryz.func83 #[.slice A0 l0.length c0, .string a1] ?_; (with_reducible refine (item_place.calls k _ _ l0 a1 t150 true _ ?side1 ?side2 A5.out).mono ?_); (case side1 => exact cb_ HR0); (case side2 => exact HC0.out); rintro e w902 ⟨rfl, hb⟩; refine ⟨_, rfl, ?_⟩; replace HB := hb_ hb; (try clear hb); have p152 : 0 ≤ (t150 : Int) := of_decide_eq_true (by first | (with_reducible assumption) | assumption); have q152 : t150 < (l0.length : Int) := of_decide_eq_true (by first | (with_reducible assumption) | assumption); obtain ⟨ad152, e152, hx152_0, hx152_1⟩ := at_T56 HR0.out t150 p152 q152; cases e152; replace hx152_0 := (HB.out.cell (World.block_lt_of_cell? w _ hx152_0)).trans hx152_0; replace hx152_1 := (HB.out.cell (World.block_lt_of_cell? w _ hx152_1)).trans hx152_1; replace p152 := eq_true p152; replace q152 := eq_true q152) | ((with_reducible refine gate_callee (f := 83) rfl ?_); refine gl_ (some 17) Tryz.func83 #[.slice A0 l0.length c0, .string a1] ?_; (with_reducible refine (item_place.calls k _ _ l0 a1 t150 false _ ?side1 ?side2 A5.out).mono ?_); (case side1 => exact cb_ HR0); (case side2 => exact HC0.out); rintro e w902 ⟨rfl, hb⟩; refine ⟨_, rfl, ?_⟩; replace HB := hb_ hb; (try clear hb)))
  go_ret2
  exact ⟨by first | rfl | (simp [errW_none, errW_some] <;> rfl) | (simp [*, errW_none, errW_some] <;> rfl), bel_⟩
end Go.Proofs.YtpnmajblhgnkoaaGreat.Z
end

section
namespace Go.Proofs.YtpnmajblhgnkoaaGreat.Z
attribute [local go_sem ↓] Go.wp_at_zero Go.wp_at_succ
abbrev VolOf (w : World) (g base : Nat) (A : Option Addr) (c : Nat) (l : List VIT) (sm : Int) (s : VS) : Prop := VolR w g base (.slice A l.length c) 1 0 sm true s
set_option maxRecDepth 100000 in
set_option maxHeartbeats 3200000 in
theorem inode_calls (g base : Nat) (it : Value) (d m sm : Int) (r : Bool) (s : VS) (i : Int) (n : INd) (b : Bool) (w : World) (hV : VolR w g base it d m sm r s) (hi : 0 ≤ i ∧ i < 4294967296) (hn : n = (s.ino i).getD zI) (hb : b = (s.ino i).isSome) :
    Calls Tryz.prog 24 #[.pointer (some ⟨g, 0, none⟩), .int .u32 i] w fun e w' => e = .returned (.tuple #[.agg #[.int .u8 n.kd, .int .u16 n.md, .int .u32 n.ln, .int .u32 n.sz, .string n.tg], .bool b]) ∧ Below w.heap.size w w' := by
  obtain ⟨va, bi, bu, hG, hA, hI, _⟩ := hV
  have GB := ak_ hG
  have MI := ak_ hI
  have HI := ak_ hi
  have HN := ak_ hn
  have HB := ak_ hb
  clear hG hA hI hi hn hb
  go_enter Tryz.func24, Tryz.ntmps24
  go_wp2_with (first
    | ((with_reducible refine gate_dst (N := 4) rfl ?_); refine box_event ?hg (N := 4) ?hd (cs := #[.int .u8 0, .int .u16 0, .int .u32 0, .int .u32 0, .string ⟨#[]⟩]) (t := 31) ?hr ?_; (case hd => rfl); (case hg => rfl); (case hr => first | (go_simp; done) | (go_simp; rfl)); intro gr hgr w1 hx hb; have R1 := ak_ hx; have B1 := ak_ hb; have GR := ak_ (show w.heap.size ≤ gr by rw [hgr]; exact Nat.le_refl _); have q6 : w1.cell? ⟨g, 6, none⟩ = some (.map (some bi)) := (blk_cell (blk_below GB.out hb) 6).trans rfl; have lk := lookB (MI.out.below hb) HI.out HN.out HB.out; clear hx hb hgr)
    | ((with_reducible refine gate_dst (N := 6) rfl ?_); refine var_event (N := 6) (T := 31) (n := 5) (zc := #[.int .u8 0, .int .u16 0, .int .u32 0, .int .u32 0, .string ⟨#[]⟩]) (cs := #[.int .u8 n.kd, .int .u16 n.md, .int .u32 n.ln, .int .u32 n.sz, .string n.tg]) rfl rfl rfl (.tmp 15) rfl rfl ?hr (by kernel_rfl) rfl rfl rfl ?hx ?hN ?_; (case hx => intro p_; rfl); (case hN => intro p_; rfl); (case hr => first | (go_simp; done) | (go_simp; rfl)); intro gn hgn w2 hx hb; have N2 := ak_ hx; have R2 := ak_ (blk_below R1.out hb); have B2 := ak_ (below_step B1.out hb); clear q6 lk; have n0 : w2.cell? ⟨gn, 0, none⟩ = some (.int .u8 n.kd) := (blk_cell N2.out 0).trans rfl; have n1 : w2.cell? ⟨gn, 1, none⟩ = some (.int .u16 n.md) := (blk_cell N2.out 1).trans rfl; have n2 : w2.cell? ⟨gn, 2, none⟩ = some (.int .u32 n.ln) := (blk_cell N2.out 2).trans rfl; have n3 : w2.cell? ⟨gn, 3, none⟩ = some (.int .u32 n.sz) := (blk_cell N2.out 3).trans rfl; have n4 : w2.cell? ⟨gn, 4, none⟩ = some (.string n.tg) := (blk_cell N2.out 4).trans rfl; have r0 : w2.cell? ⟨gr, 0, none⟩ = some (.int .u8 0) := (blk_cell R2.out 0).trans rfl; have r1 : w2.cell? ⟨gr, 1, none⟩ = some (.int .u16 0) := (blk_cell R2.out 1).trans rfl; have r2 : w2.cell? ⟨gr, 2, none⟩ = some (.int .u32 0) := (blk_cell R2.out 2).trans rfl; have r3 : w2.cell? ⟨gr, 3, none⟩ = some (.int .u32 0) := (blk_cell R2.out 3).trans rfl; have r4 : w2.cell? ⟨gr, 4, none⟩ = some (.string ⟨#[]⟩) := (blk_cell R2.out 4).trans rfl; have f0 : w2.frozen? ⟨gr, 0, none⟩ = false := blk_frozen R2.out 0; have f1 : w2.frozen? ⟨gr, 1, none⟩ = false := blk_frozen R2.out 1; have f2 : w2.frozen? ⟨gr, 2, none⟩ = false := blk_frozen R2.out 2; have f3 : w2.frozen? ⟨gr, 3, none⟩ = false := blk_frozen R2.out 3; have f4 : w2.frozen? ⟨gr, 4, none⟩ = false := blk_frozen R2.out 4; clear hx hb hgn))
  obtain ⟨hR9, hB9⟩ := lay5 (.int .u8 n.kd) (.int .u16 n.md) (.int .u32 n.ln) (.int .u32 n.sz) (.string n.tg) R2.out B2.out GR.out
  refine bodyPost_ret (results_ct rfl _ _ gr 31 #[.int .u8 n.kd, .int .u16 n.md, .int .u32 n.ln, .int .u32 n.sz, .string n.tg] (0, 0) _ rfl hR9 Tryz.underlying31 rfl (by kernel_rfl)) rfl ?_
  exact ⟨rfl, hB9⟩
def entryF (k : Nat) (l : List VIT) (i : Int) (nm : ByteArray) : Option Int := (inode_Key.f k 2 i nm 0).bind fun q => if q.2 = 0 then (item_Get.f k l q.1).bind fun r => dirs_number.f k r.1 else some 0
theorem entryF.mono (l : List VIT) (i : Int) (nm : ByteArray) : ∀ k, LeO (entryF k l i nm) (entryF (k + 1) l i nm) := fun k => by
  unfold entryF
  exact LeO.bind (inode_Key.mono _ _ _ _ _) (fun _ => LeO.ite (LeO.bind (item_Get.mono _ _ _) (fun _ => dirs_number.mono _ _)) (LeO.refl _))
theorem entry_wf {k : Nat} {l : List VIT} {i : Int} {nm : ByteArray} {r : Int} (h : entryF k l i nm = some r) : 0 ≤ r ∧ r < 4294967296 := by
  unfold entryF at h
  obtain ⟨q, _, h⟩ := Option.bind_eq_some_iff.mp h
  split at h
  · obtain ⟨x, _, h⟩ := Option.bind_eq_some_iff.mp h
    exact number_wf h
  · have := Option.some.inj h
    omega
set_option maxRecDepth 100000 in
set_option maxHeartbeats 3200000 in
theorem entry_calls (k : Nat) (g base : Nat) (A : Option Addr) (c : Nat) (l : List VIT) (sm : Int) (s : VS) (i : Int) (nm : ByteArray) (r : Int) (w : World) (hV : VolOf w g base A c l sm s) (hC : Kd.C k56 w A l.length l) (hc : l.length ≤ c) (h : entryF k l i nm = some r) :
    Calls Tryz.prog 38 #[.pointer (some ⟨g, 0, none⟩), .int .u32 i, .string nm] w fun e w' => e = .returned (.int .u32 r) ∧ Below w.heap.size w w' := by
  obtain ⟨va, bi, bu, hG, _⟩ := hV
  have GB := ak_ hG
  have HC := ak_ hC
  have HP := ak_ hc
  unfold entryF at h
  obtain ⟨⟨ky, wy⟩, hk, h⟩ := Option.bind_eq_some_iff.mp h
  have HK := ak_ hk
  clear hG hC hc hk
  by_cases h0 : wy = 0
  · rw [if_pos h0] at h
    subst h0
    obtain ⟨⟨vl, wv⟩, hg, h⟩ := Option.bind_eq_some_iff.mp h
    have HG := ak_ hg
    have HN := ak_ h
    clear hg h
    go_enter Tryz.func38, Tryz.ntmps38
    go_wp2_with (first
      | (go_at_call 32; refine (inode_Key.calls k 2 i nm 0 ky 0 _ HK.out).mono ?_; rintro e w1 ⟨rfl, hb⟩; have B1 := ak_ hb; have q0 : w1.cell? ⟨g, 0, none⟩ = some (.slice A l.length c) := (blk_cell (blk_below GB.out hb) 0).trans rfl; clear hb)
      | (go_at_call 63; refine (item_Get.calls k A c l ky vl wv _ (Kd.C_below HC.out B1.out) HP.out HG.out).mono ?_; rintro e w2 ⟨rfl, hb⟩; have B2 := ak_ (below_step B1.out hb); clear hb)
      | (go_at_call 43; refine (dirs_number.calls k vl r _ HN.out).mono ?_; rintro e w3 ⟨rfl, hd⟩; have B3 := ak_ (below_step B2.out hd.below); clear hd))
    go_ret
    exact ⟨rfl, B3.out⟩
  · rw [if_neg h0] at h
    have e0 : (wy != 0) = true := bne_iff_ne.2 h0
    obtain rfl := Option.some.inj h
    clear h h0
    go_enter Tryz.func38, Tryz.ntmps38
    go_wp2_with (first
      | (go_at_call 32; refine (inode_Key.calls k 2 i nm 0 ky wy _ HK.out).mono ?_; rintro e w1 ⟨rfl, hb⟩; have B1 := ak_ hb; clear hb))
    go_ret
    exact ⟨rfl, B1.out⟩
def nextL (ino : Int → Option INd) : Nat → Int → Option Int
  | 0, _ => none
  | k + 1, n => if (ino n).isSome = true then nextL ino k ((n + 1) % 4294967296) else some n
theorem nextL.mono (ino : Int → Option INd) : ∀ (k : Nat) (n : Int), LeO (nextL ino k n) (nextL ino (k + 1) n)
  | 0, n => fun r h => by simp [nextL] at h
  | k + 1, n => by
    unfold nextL
    exact LeO.ite (nextL.mono ino k _) (LeO.refl _)
set_option maxRecDepth 100000 in
set_option maxHeartbeats 3200000 in
theorem next_calls (k : Nat) (g base : Nat) (it : Value) (d m sm : Int) (r : Bool) (s : VS) (res : Int) (w : World) (hV : VolR w g base it d m sm r s) (h : nextL s.ino k 2 = some res) :
    Calls Tryz.prog 28 #[.pointer (some ⟨g, 0, none⟩)] w fun e w' => e = .returned (.int .u32 res) ∧ Below w.heap.size w w' := by
  obtain ⟨va, bi, bu, hG, hA, hI, _⟩ := hV
  have GB := ak_ hG
  have MI := ak_ hI
  have H := ak_ h
  clear hG hA hI h
  have hnot : ∀ (x : Bool) (w : World), (Op.unary .not (.bool x)).run Tryz.prog w = .ok (.bool (!x)) w := fun _ _ => rfl
  go_enter Tryz.func28, Tryz.ntmps28
  go_wp2
  go_loopg [3] k (fun kq v3 wr => ∃ i : Int, v3 = .int .u32 i ∧ Aside0 (nextL s.ino kq i = some res) ∧ Aside0 (kq ≤ k) ∧ Aside0 (0 ≤ i ∧ i < 4294967296) ∧ Aside0 (Below w.heap.size w wr))
  case atStart => exact ⟨2, rfl, H, ⟨Nat.le_refl _⟩, ⟨by decide⟩, ⟨Below.refl _ _⟩⟩
  case round =>
    obtain ⟨i, rfl, HA, HK1, HI, HBW⟩ := hrel
    cases gk with
    | zero => exact absurd HA.out (by simp [nextL])
    | succ k1 =>
      have hR := HA.out
      rw [nextL] at hR
      obtain ⟨n, hn⟩ : ∃ n, n = (s.ino i).getD zI := ⟨_, rfl⟩
      obtain ⟨b, hb⟩ : ∃ b, b = (s.ino i).isSome := ⟨_, rfl⟩
      rw [← hb] at hR
      have q6 : wr.cell? ⟨g, 6, none⟩ = some (.map (some bi)) := (blk_cell (blk_below GB.out HBW.out) 6).trans rfl
      have HN := ak_ hn
      have HB := ak_ hb
      clear hn hb
      have lk := lookB (MI.out.below HBW.out) HI.out HN.out HB.out
      cases b with
      | true =>
        rw [if_pos rfl] at hR
        have HRR := ak_ hR
        have e1 : IntKind.u32.wrap (i + 1) = (i + 1) % 4294967296 := by rw [IntKind.wrap_u32]
        clear hR
        go_wp2_with (first | ((with_reducible refine gate_dst (N := 4) rfl ?_); refine var_event (N := 4) (T := 31) (n := 5) (zc := #[.int .u8 0, .int .u16 0, .int .u32 0, .int .u32 0, .string ⟨#[]⟩]) (cs := #[.int .u8 n.kd, .int .u16 n.md, .int .u32 n.ln, .int .u32 n.sz, .string n.tg]) rfl rfl rfl (.tmp 13) rfl rfl ?hr (by kernel_rfl) rfl rfl rfl ?hx ?hN ?_; (case hx => intro p_; rfl); (case hN => intro p_; rfl); (case hr => first | (go_simp; done) | (go_simp; rfl)); intro gn hgn w4 hx hb; have B4 := ak_ (below_step HBW.out hb); clear hx hb hgn q6 lk))
        go_roundg k1
        case measure => have := HK1.out; omega
        case rel => exact ⟨(i + 1) % 4294967296, (by first | rfl | simp [e1] | (rw [e1])), HRR, ⟨by have := HK1.out; omega⟩, ⟨by omega⟩, B4⟩
      | false =>
        rw [if_neg (by decide)] at hR
        obtain rfl := Option.some.inj hR
        clear hR
        go_wp2_with (first | ((with_reducible refine gate_dst (N := 4) rfl ?_); refine var_event (N := 4) (T := 31) (n := 5) (zc := #[.int .u8 0, .int .u16 0, .int .u32 0, .int .u32 0, .string ⟨#[]⟩]) (cs := #[.int .u8 n.kd, .int .u16 n.md, .int .u32 n.ln, .int .u32 n.sz, .string n.tg]) rfl rfl rfl (.tmp 13) rfl rfl ?hr (by kernel_rfl) rfl rfl rfl ?hx ?hN ?_; (case hx => intro p_; rfl); (case hN => intro p_; rfl); (case hr => first | (go_simp; done) | (go_simp; rfl)); intro gn hgn w4 hx hb; have B4 := ak_ (below_step HBW.out hb); clear hx hb hgn q6 lk))
        go_ret
        exact ⟨rfl, B4.out⟩
end Go.Proofs.YtpnmajblhgnkoaaGreat.Z
end

section
namespace Go.Proofs.YtpnmajblhgnkoaaGreat.Z
theorem info_str : (Tryz.prog.info? 9).map (fun i => (i.zero, i.size, i.bytes)) = some (some (.string ⟨#[]⟩), 1, 16) := by kernel_rfl
set_option maxRecDepth 100000 in
set_option maxHeartbeats 1600000 in
theorem grow_calls (n : Nat) (hn : n ≤ 10995116277760) (w : World) :
    Calls Tryz.prog 67 #[.slice none 0 0, .int .i64 n] w fun e w' => ∃ v, e = .returned v ∧ Kd.R Kd.string 9 w' w.heap.size (fun _ => True) v [] ∧ Below w.heap.size w w' := by
  by_cases h0 : 0 < n
  · obtain ⟨i, hi, hz, hs, hb⟩ := info_parts info_str
    have hrun := fun ty => Lib.run_append_nil_zeros (P := Tryz.prog) w 23 3 ty 9 i (.string ⟨#[]⟩) .i64 .i64 Tryz.underlying23 Tryz.underlying3 hi hz n h0 (by rw [hs]; decide) (by omega) (by rw [hb]; omega)
    obtain ⟨cp, hcp⟩ : ∃ cp, cp = grownCap w n 0 9 := ⟨_, rfl⟩
    have hge : n ≤ cp := by rw [hcp]; exact grownCap_ge _ _ _ _
    have hmx : cp ≤ maxLen := by rw [hcp]; exact grownCap_le_maxLen _ _ _ _ (by unfold maxLen; omega)
    have hsz : (Builtin.zeroCells (Value.string ⟨#[]⟩).cells n ++ Builtin.zeroCells (Value.string ⟨#[]⟩).cells (cp - n)).size = cp * 1 := by
      rw [Array.size_append, size_zeroCells, size_zeroCells]
      simp [Value.cells]
      omega
    have hpos : decide ((0 : Int) < n) = true := decide_eq_true (by omega)
    have hpos2 : decide (0 < n) = true := decide_eq_true h0
    have hneg : decide ((n : Int) < 0) = false := decide_eq_false (by omega)
    have hw1 : IntKind.i64.wrap (n : Int) = n := by rw [IntKind.wrap_i64]; omega
    have HG := ak_ hge
    have HM := ak_ hmx
    have HS := ak_ hsz
    have HR := ak_ hrun
    have HCP := ak_ hcp
    have pc := eq_true (show (0 : Int) ≤ cp by omega)
    clear hrun hsz hge hmx hi hz hs hb h0 hcp
    go_enter Tryz.func67, Tryz.ntmps67
    go_wp2_with (at_builtin; refine Lib.wpList_append_run _ rfl (.tmp 20) (.tmp 21) 23 3 rfl (.slice none 0 0) (.int .i64 n) rfl rfl (.slice (some ⟨w.heap.size, 0, none⟩) n cp) (w.drew.alloc (.cells (Builtin.zeroCells (Value.string ⟨#[]⟩).cells n ++ Builtin.zeroCells (Value.string ⟨#[]⟩).cells (cp - n)) 9)) (by rw [HCP.out]; exact HR.out _) ?_; have B1 := ak_ (blk_new w.drew (.cells (Builtin.zeroCells (Value.string ⟨#[]⟩).cells n ++ Builtin.zeroCells (Value.string ⟨#[]⟩).cells (cp - n)) 9)); have D1 := ak_ (below_alloc (below_drew1 (Below.refl w.heap.size w)) (.cells (Builtin.zeroCells (Value.string ⟨#[]⟩).cells n ++ Builtin.zeroCells (Value.string ⟨#[]⟩).cells (cp - n)) 9)); generalize (w.drew.alloc (.cells (Builtin.zeroCells (Value.string ⟨#[]⟩).cells n ++ Builtin.zeroCells (Value.string ⟨#[]⟩).cells (cp - n)) 9)) = w1 at B1 D1 ⊢)
    go_ret
    exact ⟨_, rfl, R_of_row (d := Kd.string) (xs := []) (inner := []) (Nat.le_refl _) trivial B1.out (Nat.zero_le _) HM.out HS.out rfl rfl (fun ok' => Reps.none _ _), D1.out⟩
  · obtain rfl : n = 0 := by omega
    go_enter Tryz.func67, Tryz.ntmps67
    go_wp2
    go_ret
    exact ⟨_, rfl, Kd.R_nil _ _ _ _ _, Below.refl _ _⟩
theorem str_base {w : World} {base : Nat} {v : Value} {l : List ByteArray} (h : Kd.R Kd.string 9 w base (fun _ => True) v l) (b : Nat) (e : v.ownBlock = some b) : base ≤ b := by
  obtain ⟨inner, ho⟩ := Kd.R_own h
  exact own_base ho b e
set_option maxRecDepth 100000 in
set_option maxHeartbeats 3200000 in
theorem concat_calls (gq : Nat) (t : TypeId) (A1 A2 : Option Addr) (c1 c2 : Nat) (l1 l2 : List ByteArray) (w : World) (hq : w.heap[gq]? = some (.cells #[.slice A1 l1.length c1, .slice A2 l2.length c2] t (0, 0))) (h1 : Kd.C Kd.string w A1 l1.length l1) (h2 : Kd.C Kd.string w A2 l2.length l2) (hl : l1.length + l2.length ≤ 10995116277760) :
    Calls Tryz.prog 40 #[.slice (some ⟨gq, 0, none⟩) 2 2] w fun e w' => ∃ v, e = .returned v ∧ Kd.R Kd.string 9 w' w.heap.size (fun _ => True) v (l1 ++ l2) ∧ Below w.heap.size w w' := by
  have HQ := ak_ hq
  have H1 := ak_ h1
  have H2 := ak_ h2
  have HL := ak_ hl
  clear hq h1 h2 hl
  go_enter Tryz.func40, Tryz.ntmps40
  go_wp2
  go_loopw [3, 11] (fun vs vi wr => ∃ i : Nat, vi = .int .i64 i ∧ vs = .int .i64 (if i = 0 then 0 else if i = 1 then l1.length else l1.length + l2.length : Nat) ∧ i ≤ 2 ∧ Aside0 (Below w.heap.size w wr)) (fun _ vi _ => 2 - (intOf vi).toNat)
  case atStart => exact ⟨0, rfl, rfl, by omega, ⟨Below.refl _ _⟩⟩
  case round =>
    obtain ⟨i, rfl, rfl, hi, HB⟩ := hrel
    have G1 := ak_ (blk_below HQ.out HB.out)
    have hll := HL.out
    have hi3 : i = 0 ∨ i = 1 ∨ i = 2 := by omega
    rcases hi3 with rfl | rfl | rfl
    · have c0 : wr.cell? ⟨gq, 0, none⟩ = some (.slice A1 l1.length c1) := (blk_cell G1.out 0).trans rfl
      have e1 : IntKind.i64.wrap (l1.length : Int) = l1.length := by rw [IntKind.wrap_i64]; omega
      have e2 : decide ((l1.length : Int) < 0) = false := decide_eq_false (by omega)
      clear hll hi
      go_wp2
      exact ⟨⟨1, rfl, rfl, by omega, HB⟩, by decide⟩
    · have c0 : wr.cell? ⟨gq, 1, none⟩ = some (.slice A2 l2.length c2) := (blk_cell G1.out 1).trans rfl
      have e1 : IntKind.i64.wrap ((l1.length : Int) + (l2.length : Int)) = (l1.length : Int) + (l2.length : Int) := by rw [IntKind.wrap_i64]; omega
      have e2 : decide ((l1.length : Int) + (l2.length : Int) < 0) = false := decide_eq_false (by omega)
      clear hll hi
      go_wp2
      exact ⟨⟨2, rfl, by first | rfl | simp, by omega, HB⟩, by decide⟩
    · clear hll hi
      go_wp2_with (go_at_call 67; refine (grow_calls (l1.length + l2.length) HL.out _).mono ?_; rintro e w1 ⟨v1, rfl, hr, hb⟩; have R1 := ak_ (Kd.R_lower hr HB.out.size); have B1 := ak_ (below_step HB.out hb); clear hr hb)
      go_loopw [6, 27] (fun vn vi wr => ∃ i : Nat, vi = .int .i64 i ∧ i ≤ 2 ∧ Aside0 (Kd.R Kd.string 9 wr w.heap.size (fun _ => True) vn (if i = 0 then [] else if i = 1 then l1 else l1 ++ l2)) ∧ Aside0 (Below w.heap.size w wr)) (fun _ vi _ => 2 - (intOf vi).toNat)
      case atStart => exact ⟨0, rfl, by omega, R1, B1⟩
      case round =>
        obtain ⟨i, rfl, hi, HR, HB2⟩ := hrel
        obtain ⟨A0, c0_, hv⟩ := Kd.R_slice HR.out
        obtain ⟨n0, hn0⟩ : ∃ n0, n0 = (if i = 0 then [] else if i = 1 then l1 else l1 ++ l2 : List ByteArray).length := ⟨_, rfl⟩
        rw [← hn0] at hv
        subst hv
        have G2 := ak_ (blk_below HQ.out HB2.out)
        have hi3 : i = 0 ∨ i = 1 ∨ i = 2 := by omega
        clear G1
        rcases hi3 with rfl | rfl | rfl
        · have c0 : wr.cell? ⟨gq, 0, none⟩ = some (.slice A1 l1.length c1) := (blk_cell G2.out 0).trans rfl
          clear hi hn0
          go_wp2_with ((at_builtin; refine append_wide_event (d := Kd.string) flat_string w.heap.size rfl (.tmp 31) (.tmp 32) 23 9 (.string ⟨#[]⟩) 16 rfl Tryz.underlying23 info_str rfl (by decide) (.slice A0 n0 c0_) [] l1 A1 l1.length c1 rfl rfl HR.out (Kd.C_below H1.out HB2.out) HB2.out.size (by have := HL.out; simp; omega) (by have := HL.out; unfold maxLen; simp; omega) ?_; intro v3 w3 ho hg; have R3 := ak_ ho; have B3 := ak_ (HB2.out.grown hg HB2.out.size (fun j hj => str_base HR.out j hj)); clear ho hg))
          exact ⟨⟨1, rfl, by omega, R3, B3⟩, by decide⟩
        · have c0 : wr.cell? ⟨gq, 1, none⟩ = some (.slice A2 l2.length c2) := (blk_cell G2.out 1).trans rfl
          clear hi hn0
          go_wp2_with ((at_builtin; refine append_wide_event (d := Kd.string) flat_string w.heap.size rfl (.tmp 31) (.tmp 32) 23 9 (.string ⟨#[]⟩) 16 rfl Tryz.underlying23 info_str rfl (by decide) (.slice A0 n0 c0_) l1 l2 A2 l2.length c2 rfl rfl HR.out (Kd.C_below H2.out HB2.out) HB2.out.size (by have := HL.out; simp; omega) (by have := HL.out; unfold maxLen; simp; omega) ?_; intro v3 w3 ho hg; have R3 := ak_ ho; have B3 := ak_ (HB2.out.grown hg HB2.out.size (fun j hj => str_base HR.out j hj)); clear ho hg))
          exact ⟨⟨2, rfl, by omega, R3, B3⟩, by decide⟩
        · clear hi hn0
          go_wp2
          go_ret
          exact ⟨_, rfl, HR.out, HB2.out⟩
end Go.Proofs.YtpnmajblhgnkoaaGreat.Z
end

section
namespace Go.Proofs.YtpnmajblhgnkoaaGreat.Z
attribute [local go_sem] max2_int min2_int max_two min_two max_three min_three max_four min_four   -- for this text's walks alone
def stringslite_HasPrefix.f (a0 : ByteArray) (a1 : ByteArray) : Option (Bool) := if (a0.size : Int) ≥ (a1.size : Int) then (if 0 ≤ (a1.size : Int) then (if (a1.size : Int) ≤ (a0.size : Int) then (some ((a0.extract 0 ((a1.size : Int) : Int).toNat).toList == a1.toList)) else (none)) else (none)) else (some false)
set_option maxHeartbeats 8000000 in
set_option maxRecDepth 100000 in
theorem stringslite_HasPrefix.calls (a0 : ByteArray) (a1 : ByteArray) (r : Bool) (w : World) (h : stringslite_HasPrefix.f a0 a1 = some r) :
  Calls Tryz.prog 99 #[.string a0, .string a1] w fun e w' => e = .returned (.bool r) ∧ Drawn0 w w' := by
 have H : (if (a0.size : Int) ≥ (a1.size : Int) then (if 0 ≤ (a1.size : Int) then (if (a1.size : Int) ≤ (a0.size : Int) then (some ((a0.extract 0 ((a1.size : Int) : Int).toNat).toList == a1.toList)) else (none)) else (none)) else (some false)) = some r := h
 clear h
 by_cases c3 : (a0.size : Int) ≥ (a1.size : Int)
 ·rw [if_pos c3] at H
  have c3b0 : decide ((a1.size : Int) ≤ (a0.size : Int)) = true := decide_eq_true c3
  have c3b1 : decide (a1.size ≤ a0.size) = true := decide_eq_true (Int.ofNat_le.mp c3)
  clear c3
  by_cases c4 : 0 ≤ (a1.size : Int)
  ·rw [if_pos c4] at H
   have c4b0 := eq_true c4
   have c4b1 : decide (0 ≤ (a1.size : Int)) = true := decide_eq_true c4
   clear c4
   by_cases c5 : (a1.size : Int) ≤ (a0.size : Int)
   ·rw [if_pos c5] at H
    have c5b0 := eq_true c5
    have c5b1 : decide ((a1.size : Int) ≤ (a0.size : Int)) = true := decide_eq_true c5
    clear c5
    obtain rfl := Option.some.inj H
    go_enter Tryz.func99, Tryz.ntmps99
    go_wp2
    go_ret
    exact ⟨by first | rfl | (simp; done) | (simp [*]; done), by repeat (first | exact Drawn0.refl _ | apply Drawn0.step)⟩
   rw [if_neg c5] at H
   exact absurd H (by simp)
  rw [if_neg c4] at H
  exact absurd H (by simp)
 rw [if_neg c3] at H
 have c3b0 : decide ((a1.size : Int) ≤ (a0.size : Int)) = false := decide_eq_false c3
 have c3b1 : decide (a1.size ≤ a0.size) = false := decide_eq_false (fun h => c3 (Int.ofNat_le.mpr h))
 clear c3
 obtain rfl := Option.some.inj H
 go_enter Tryz.func99, Tryz.ntmps99
 go_wp2
 go_ret
 exact ⟨by first | rfl | (simp; done) | (simp [*]; done), by repeat (first | exact Drawn0.refl _ | apply Drawn0.step)⟩
def stringslite_CutPrefix.f (a0 : ByteArray) (a1 : ByteArray) : Option (ByteArray × Bool) := (stringslite_HasPrefix.f a0 a1).bind fun t116 => (if t116 = true then (if 0 ≤ (a1.size : Int) then (if (a1.size : Int) ≤ (a0.size : Int) then (some (a0.extract ((a1.size : Int) : Int).toNat a0.size, true)) else (none)) else (none)) else (some (a0, false)))
set_option maxHeartbeats 8000000 in
set_option maxRecDepth 100000 in
theorem stringslite_CutPrefix.calls (a0 : ByteArray) (a1 : ByteArray) (r1 : ByteArray) (r2 : Bool) (w : World) (h : stringslite_CutPrefix.f a0 a1 = some (r1, r2)) :
  Calls Tryz.prog 84 #[.string a0, .string a1] w fun e w' => e = .returned (.tuple #[.string r1, .bool r2]) ∧ Drawn0 w w' := by
 have H : ((stringslite_HasPrefix.f a0 a1).bind fun t116 => (if t116 = true then (if 0 ≤ (a1.size : Int) then (if (a1.size : Int) ≤ (a0.size : Int) then (some (a0.extract ((a1.size : Int) : Int).toNat a0.size, true)) else (none)) else (none)) else (some (a0, false)))) = some (r1, r2) := h
 clear h
 replace H := Option.bind_eq_some_iff.mp H
 obtain ⟨t116, A30, H⟩ := H
 try dsimp only at H
 have A3 := ak_ A30
 clear A30
 by_cases c4 : t116 = true
 ·subst c4
  rw [if_pos rfl] at H
  by_cases c5 : 0 ≤ (a1.size : Int)
  ·rw [if_pos c5] at H
   have c5b0 := eq_true c5
   have c5b1 : decide (0 ≤ (a1.size : Int)) = true := decide_eq_true c5
   clear c5
   by_cases c6 : (a1.size : Int) ≤ (a0.size : Int)
   ·rw [if_pos c6] at H
    have c6b0 := eq_true c6
    have c6b1 : decide ((a1.size : Int) ≤ (a0.size : Int)) = true := decide_eq_true c6
    clear c6
    simp only [Option.some.injEq, Prod.mk.injEq] at H
    obtain ⟨rfl, rfl⟩ := H
    go_enter Tryz.func84, Tryz.ntmps84
    go_wp2_with (first | ((with_reducible refine gate_callee (f := 99) rfl ?_); refine gl_ (some 8) Tryz.func99 #[.string a0, .string a1] ?_; (with_reducible refine (stringslite_HasPrefix.calls a0 a1 true _ A3.out).mono ?_); rintro e w' ⟨rfl, ⟨nd, rfl⟩⟩; refine ⟨_, rfl, ?_⟩))
    go_ret2
    exact ⟨by first | rfl | (simp; done) | (simp [*]; done), by repeat (first | exact Drawn0.refl _ | apply Drawn0.step)⟩
   rw [if_neg c6] at H
   exact absurd H (by simp)
  rw [if_neg c5] at H
  exact absurd H (by simp)
 replace c4 := Bool.eq_false_iff.mpr c4
 subst c4
 rw [if_neg (show ¬ (false = true) by decide)] at H
 simp only [Option.some.injEq, Prod.mk.injEq] at H
 obtain ⟨rfl, rfl⟩ := H
 go_enter Tryz.func84, Tryz.ntmps84
 go_wp2_with (first | ((with_reducible refine gate_callee (f := 99) rfl ?_); refine gl_ (some 8) Tryz.func99 #[.string a0, .string a1] ?_; (with_reducible refine (stringslite_HasPrefix.calls a0 a1 false _ A3.out).mono ?_); rintro e w' ⟨rfl, ⟨nd, rfl⟩⟩; refine ⟨_, rfl, ?_⟩))
 go_ret2
 exact ⟨by first | rfl | (simp; done) | (simp [*]; done), by repeat (first | exact Drawn0.refl _ | apply Drawn0.step)⟩
def strings_CutPrefix.f (a0 : ByteArray) (a1 : ByteArray) : Option (ByteArray × Bool) := (stringslite_CutPrefix.f a0 a1).bind fun bt117 => (some (bt117.1, bt117.2))
set_option maxHeartbeats 8000000 in
set_option maxRecDepth 100000 in
theorem strings_CutPrefix.calls (a0 : ByteArray) (a1 : ByteArray) (r1 : ByteArray) (r2 : Bool) (w : World) (h : strings_CutPrefix.f a0 a1 = some (r1, r2)) :
  Calls Tryz.prog 64 #[.string a0, .string a1] w fun e w' => e = .returned (.tuple #[.string r1, .bool r2]) ∧ Drawn0 w w' := by
 have H : ((stringslite_CutPrefix.f a0 a1).bind fun bt117 => (some (bt117.1, bt117.2))) = some (r1, r2) := h
 clear h
 replace H := Option.bind_eq_some_iff.mp H
 obtain ⟨⟨t117, t118⟩, A30, H⟩ := H
 try dsimp only at H
 have A3 := ak_ A30
 clear A30
 simp only [Option.some.injEq, Prod.mk.injEq] at H
 obtain ⟨rfl, rfl⟩ := H
 go_enter Tryz.func64, Tryz.ntmps64
 go_wp2_with (first | ((with_reducible refine gate_callee (f := 84) rfl ?_); refine gl_ (some 8) Tryz.func84 #[.string a0, .string a1] ?_; (with_reducible refine (stringslite_CutPrefix.calls a0 a1 t117 t118 _ A3.out).mono ?_); rintro e w' ⟨rfl, ⟨nd, rfl⟩⟩; refine ⟨_, rfl, ?_⟩))
 go_ret2
 exact ⟨by first | rfl | (simp; done) | (simp [*]; done), by repeat (first | exact Drawn0.refl _ | apply Drawn0.step)⟩
end Go.Proofs.YtpnmajblhgnkoaaGreat.Z
end

section
namespace Go.Proofs.YtpnmajblhgnkoaaGreat.Z
def stringslite_Index.f (a0 a1 : ByteArray) : Option Int := if h : a1.size = 1 then some (Lib.indexByte a0.data.toList (a1.data[0]'(by have : a1.data.size = 1 := h; omega))) else none
theorem stringslite_Index.calls (a0 a1 : ByteArray) (r : Int) (w : World) (h : stringslite_Index.f a0 a1 = some r) :
    Calls Tryz.prog 100 #[.string a0, .string a1] w fun e w' => e = .returned (.int .i64 r) ∧ Drawn0 w w' := by
  unfold stringslite_Index.f at h
  split at h
  case isFalse => cases h
  case isTrue hs =>
    obtain ⟨d⟩ := a1
    obtain ⟨l⟩ := d
    match l, hs with
    | [c], _ =>
      obtain rfl := Option.some.inj h
      exact (Tryz.stringslite_Index_one a0 c w).mono fun e w' ⟨he, hw⟩ => ⟨he, hw ▸ Drawn0.refl _⟩
    | [], hs => exact absurd hs (by decide)
    | _ :: _ :: _, hs => exact absurd hs (by simp [ByteArray.size])
end Go.Proofs.YtpnmajblhgnkoaaGreat.Z
end

section
namespace Go.Proofs.YtpnmajblhgnkoaaGreat.Z
attribute [local go_sem] max2_int min2_int max_two min_two max_three min_three max_four min_four   -- for this text's walks alone
def stringslite_Cut.f (a0 : ByteArray) (a1 : ByteArray) : Option (ByteArray × ByteArray × Bool) := (stringslite_Index.f a0 a1).bind fun t119 => (if t119 ≥ 0 then (if 0 ≤ t119 then (if t119 ≤ (a0.size : Int) then (if 0 ≤ (wrap64 (t119 + (a1.size : Int))) then (if (wrap64 (t119 + (a1.size : Int))) ≤ (a0.size : Int) then (some (a0.extract 0 (t119 : Int).toNat, a0.extract ((wrap64 (t119 + (a1.size : Int))) : Int).toNat a0.size, true)) else (none)) else (none)) else (none)) else (none)) else (some (a0, (⟨#[]⟩ : ByteArray), false)))
set_option maxHeartbeats 64000000 in
set_option maxRecDepth 100000 in
theorem stringslite_Cut.calls (a0 : ByteArray) (a1 : ByteArray) (r1 : ByteArray) (r2 : ByteArray) (r3 : Bool) (w : World) (h : stringslite_Cut.f a0 a1 = some (r1, r2, r3)) :
  Calls Tryz.prog 85 #[.string a0, .string a1] w fun e w' => e = .returned (.tuple #[.string r1, .string r2, .bool r3]) ∧ Drawn0 w w' := by
 have H : ((stringslite_Index.f a0 a1).bind fun t119 => (if t119 ≥ 0 then (if 0 ≤ t119 then (if t119 ≤ (a0.size : Int) then (if 0 ≤ (wrap64 (t119 + (a1.size : Int))) then (if (wrap64 (t119 + (a1.size : Int))) ≤ (a0.size : Int) then (some (a0.extract 0 (t119 : Int).toNat, a0.extract ((wrap64 (t119 + (a1.size : Int))) : Int).toNat a0.size, true)) else (none)) else (none)) else (none)) else (none)) else (some (a0, (⟨#[]⟩ : ByteArray), false)))) = some (r1, r2, r3) := h
 clear h
 replace H := Option.bind_eq_some_iff.mp H
 obtain ⟨t119, A30, H⟩ := H
 try dsimp only at H
 have A3 := ak_ A30
 clear A30
 refine Or.elim (Classical.em (t119 ≥ 0)) (fun c4 => ?p1_) (fun c4 => ?n1_)
 case' p1_ =>
  rw [if_pos c4] at H
  have c4b0 : decide (0 ≤ t119) = true := decide_eq_true c4
  clear c4
  refine Or.elim (Classical.em (0 ≤ t119)) (fun c5 => ?p2_) (fun c5 => ?n2_)
  case' p2_ =>
   rw [if_pos c5] at H
   have c5b0 := eq_true c5
   have c5b1 : decide (0 ≤ t119) = true := decide_eq_true c5
   clear c5
   refine Or.elim (Classical.em (t119 ≤ (a0.size : Int))) (fun c6 => ?p3_) (fun c6 => ?n3_)
   case' p3_ =>
    rw [if_pos c6] at H
    have c6b0 := eq_true c6
    have c6b1 : decide (t119 ≤ (a0.size : Int)) = true := decide_eq_true c6
    clear c6
    obtain ⟨ji7, hji7⟩ : ∃ j_ : Int, (wrap64 (t119 + (a1.size : Int))) = j_ := ⟨_, rfl⟩
    replace H : (if 0 ≤ (ji7) then (if (ji7) ≤ (a0.size : Int) then (some (a0.extract 0 (t119 : Int).toNat, a0.extract ((ji7) : Int).toNat a0.size, true)) else (none)) else (none)) = some (r1, r2, r3) := by first | (rw [hji7] at H; exact H) | (simp only [hji7] at H ⊢; exact H)
    (try rw [hji7] at A3)
    have hji7w : (IntKind.i64.wrap (t119 + (a1.size : Int))) = ji7 := (i64_w _).trans hji7
    refine Or.elim (Classical.em (0 ≤ (ji7))) (fun c8 => ?p4_) (fun c8 => ?n4_)
    case' p4_ =>
     rw [if_pos c8] at H
     have c8b0 := eq_true c8
     have c8b1 : decide (0 ≤ (ji7)) = true := decide_eq_true c8
     clear c8
     refine Or.elim (Classical.em ((ji7) ≤ (a0.size : Int))) (fun c9 => ?p5_) (fun c9 => ?n5_)
     case' p5_ =>
      rw [if_pos c9] at H
      have c9b0 := eq_true c9
      have c9b1 : decide ((ji7) ≤ (a0.size : Int)) = true := decide_eq_true c9
      clear c9
      simp only [Option.some.injEq, Prod.mk.injEq] at H
      obtain ⟨rfl, rfl, rfl⟩ := H
      refine ?z1_
     case n5_ =>
      rw [if_neg c9] at H
      exact absurd H (by simp)
    case n4_ =>
     rw [if_neg c8] at H
     exact absurd H (by simp)
   case n3_ =>
    rw [if_neg c6] at H
    exact absurd H (by simp)
  case n2_ =>
   rw [if_neg c5] at H
   exact absurd H (by simp)
 case' n1_ =>
  rw [if_neg c4] at H
  have c4b0 : decide (0 ≤ t119) = false := decide_eq_false c4
  clear c4
  simp only [Option.some.injEq, Prod.mk.injEq] at H
  obtain ⟨rfl, rfl, rfl⟩ := H
  refine ?z2_
 case p1_ | n1_ =>
  go_enter Tryz.func85, Tryz.ntmps85
  go_wp2_with (first | (go_at_call 100; (with_reducible refine (stringslite_Index.calls a0 a1 t119 _ A3.out).mono ?_); rintro e w' ⟨rfl, ⟨nd, rfl⟩⟩; (try first | exact ⟨rfl, _, World.drewN_drewN _ _ _⟩ | exact ⟨rfl, _, Eq.trans (World.drewN_drewN _ _ _) (congrArg (World.drewN _) (Nat.add_assoc _ _ _))⟩)))
  repeat (go_quiet (first | (go_at_call 100; (with_reducible refine (stringslite_Index.calls a0 a1 t119 _ A3.out).mono ?_); rintro e w' ⟨rfl, ⟨nd, rfl⟩⟩; (try first | exact ⟨rfl, _, World.drewN_drewN _ _ _⟩ | exact ⟨rfl, _, Eq.trans (World.drewN_drewN _ _ _) (congrArg (World.drewN _) (Nat.add_assoc _ _ _))⟩))); try go_wp2_with (first | (go_at_call 100; (with_reducible refine (stringslite_Index.calls a0 a1 t119 _ A3.out).mono ?_); rintro e w' ⟨rfl, ⟨nd, rfl⟩⟩; (try first | exact ⟨rfl, _, World.drewN_drewN _ _ _⟩ | exact ⟨rfl, _, Eq.trans (World.drewN_drewN _ _ _) (congrArg (World.drewN _) (Nat.add_assoc _ _ _))⟩))))
  go_ret3
  first | (exact ⟨by first | rfl | (simp; done) | (simp only [← hji7] <;> (first | rfl | simp)) | (simp [*]; done), by repeat (first | exact Drawn0.refl _ | apply Drawn0.step)⟩) | (exact ⟨by first | rfl | (simp; done) | (simp [*]; done), by repeat (first | exact Drawn0.refl _ | apply Drawn0.step)⟩)
def strings_Cut.f (a0 : ByteArray) (a1 : ByteArray) : Option (ByteArray × ByteArray × Bool) := (stringslite_Cut.f a0 a1).bind fun bt120 => (some (bt120.1, bt120.2.1, bt120.2.2))
set_option maxHeartbeats 8000000 in
set_option maxRecDepth 100000 in
theorem strings_Cut.calls (a0 : ByteArray) (a1 : ByteArray) (r1 : ByteArray) (r2 : ByteArray) (r3 : Bool) (w : World) (h : strings_Cut.f a0 a1 = some (r1, r2, r3)) :
  Calls Tryz.prog 65 #[.string a0, .string a1] w fun e w' => e = .returned (.tuple #[.string r1, .string r2, .bool r3]) ∧ Drawn0 w w' := by
 have H : ((stringslite_Cut.f a0 a1).bind fun bt120 => (some (bt120.1, bt120.2.1, bt120.2.2))) = some (r1, r2, r3) := h
 clear h
 replace H := Option.bind_eq_some_iff.mp H
 obtain ⟨⟨t120, t121, t122⟩, A30, H⟩ := H
 try dsimp only at H
 have A3 := ak_ A30
 clear A30
 simp only [Option.some.injEq, Prod.mk.injEq] at H
 obtain ⟨rfl, rfl, rfl⟩ := H
 go_enter Tryz.func65, Tryz.ntmps65
 go_wp2_with (first | ((with_reducible refine gate_callee (f := 85) rfl ?_); refine gl_ (some 9) Tryz.func85 #[.string a0, .string a1] ?_; (with_reducible refine (stringslite_Cut.calls a0 a1 t120 t121 t122 _ A3.out).mono ?_); rintro e w' ⟨rfl, ⟨nd, rfl⟩⟩; refine ⟨_, rfl, ?_⟩))
 go_ret3
 exact ⟨by first | rfl | (simp; done) | (simp [*]; done), by repeat (first | exact Drawn0.refl _ | apply Drawn0.step)⟩
def path_Split.l0 : Nat → ByteArray → List ByteArray → Option (List ByteArray × Int)
 | 0, _, _ => none
 | k + 1, x4, x6 => (strings_Cut.f x4 (⟨#[47]⟩ : ByteArray)).bind fun bt125 => ((path_Name.f bt125.1).bind fun t128 => (if t128 = true then (if x6.length < 8796093022208 then ((some (x6 ++ [bt125.1] : List ByteArray)).bind fun y129 => (if bt125.2.2 = true then (path_Split.l0 k bt125.2.1 y129) else (some (y129, 0)))) else (none)) else (some (([] : List ByteArray), 10))))
def path_Split.f (k : Nat) (a0 : ByteArray) : Option (List ByteArray × Int) := if (a0.size : Int) > 256 then (some (([] : List ByteArray), 2)) else ((strings_CutPrefix.f a0 (⟨#[47]⟩ : ByteArray)).bind fun bt123 => (if bt123.2 = true then (if bt123.1.toList = ([] : List UInt8) then (some (([] : List ByteArray), 0)) else (path_Split.l0 k bt123.1 ([] : List ByteArray))) else (some (([] : List ByteArray), 10))))
theorem path_Split.mono_l : ∀ k, (∀ y0 y1, LeO (path_Split.l0 k y0 y1) (path_Split.l0 (k + 1) y0 y1))
 | 0 => by intros; intro r h; simp [path_Split.l0] at h
 | k + 1 => by
  have ih0 := path_Split.mono_l k
  intros
  unfold path_Split.l0
  repeat' (first | (with_reducible first | exact ih0 _ _ | exact LeO.refl _ | exact LeO.none _ | refine LeO.ite ?_ ?_ | refine LeO.bind ?_ (fun _ => ?_)))
theorem path_Split.mono : ∀ a0 k, LeO (path_Split.f k a0) (path_Split.f (k + 1) a0) := by
 intro a0 k
 have ih0 := path_Split.mono_l k
 unfold path_Split.f
 repeat' (first | (with_reducible first | exact ih0 _ _ | exact LeO.refl _ | exact LeO.none _ | refine LeO.ite ?_ ?_ | refine LeO.bind ?_ (fun _ => ?_)))
set_option maxHeartbeats 64000000 in
set_option maxRecDepth 100000 in
theorem path_Split.calls (k : Nat) (a0 : ByteArray) (r1 : List ByteArray) (r2 : Int) (w : World) (h : path_Split.f k a0 = some (r1, r2)) :
  Calls Tryz.prog 39 #[.string a0] w fun e w' => ∃ v0_ : Value, e = .returned (.tuple #[v0_, .int .i64 r2]) ∧ Kd.R Kd.string 9 w' w.heap.size (fun _ => True) v0_ r1 ∧ Below w.heap.size w w' := by
 have HB := ak_ (Below.refl w.heap.size w)
 have H : (if (a0.size : Int) > 256 then (some (([] : List ByteArray), 2)) else ((strings_CutPrefix.f a0 (⟨#[47]⟩ : ByteArray)).bind fun bt123 => (if bt123.2 = true then (if bt123.1.toList = ([] : List UInt8) then (some (([] : List ByteArray), 0)) else (path_Split.l0 k bt123.1 ([] : List ByteArray))) else (some (([] : List ByteArray), 10))))) = some (r1, r2) := h
 clear h
 refine Or.elim (Classical.em ((a0.size : Int) > 256)) (fun c2 => ?p1_) (fun c2 => ?n1_)
 case p1_ =>
  rw [if_pos c2] at H
  have c2b0 : decide (256 < (a0.size : Int)) = true := decide_eq_true c2
  clear c2
  simp only [Option.some.injEq, Prod.mk.injEq] at H
  obtain ⟨rfl, rfl⟩ := H
  go_enter Tryz.func39, Tryz.ntmps39
  go_wp2
  (try (refine wp_scope_post ?_; go_wp2))
  (try (go_step3; go_wp2))
  go_ret2
  exact ⟨_, rfl, by first | exact Kd.R_nil _ _ _ _ _ | exact Kd.N_nil _ _ _ _ _ | exact Kd.V_nil _ _ _ _ _ | exact Kd.Q_nil _ _ _ _ _ | exact Kd.S_nil _ _ _ _ _, bel_⟩
 case' n1_ =>
  rw [if_neg c2] at H
  have c2b0 : decide (256 < (a0.size : Int)) = false := decide_eq_false c2
  clear c2
  replace H := Option.bind_eq_some_iff.mp H
  obtain ⟨⟨t123, t124⟩, A30, H⟩ := H
  try dsimp only at H
  have A3 := ak_ A30
  clear A30
  refine Or.elim (Classical.em (t124 = true)) (fun c4 => ?p2_) (fun c4 => ?n2_)
  case' p2_ =>
   subst c4
   rw [if_pos rfl] at H
   refine Or.elim (Classical.em (t123.toList = ([] : List UInt8))) (fun c5 => ?p3_) (fun c5 => ?n3_)
   case' p3_ =>
    rw [if_pos c5] at H
    have c5b0 : (t123.toList == ([] : List UInt8)) = true := beq_iff_eq.mpr c5
    clear c5
    simp only [Option.some.injEq, Prod.mk.injEq] at H
    obtain ⟨rfl, rfl⟩ := H
    refine ?z1_
   case n3_ =>
    rw [if_neg c5] at H
    have c5b0 : (t123.toList == ([] : List UInt8)) = false := beq_eq_false_iff_ne.mpr c5
    have H' := ak_ H
    clear H
    go_enter Tryz.func39, Tryz.ntmps39
    go_wp2_with (first | ((with_reducible refine gate_callee (f := 64) rfl ?_); refine gl_ (some 15) Tryz.func64 #[.string a0, .string (⟨#[47]⟩ : ByteArray)] ?_; (with_reducible refine (strings_CutPrefix.calls a0 (⟨#[47]⟩ : ByteArray) t123 true _ A3.out).mono ?_); rintro e w' ⟨rfl, ⟨nd, rfl⟩⟩; refine ⟨_, rfl, ?_⟩))
    (try (refine wp_scope_post ?_; go_wp2_with (first | ((with_reducible refine gate_callee (f := 64) rfl ?_); refine gl_ (some 15) Tryz.func64 #[.string a0, .string (⟨#[47]⟩ : ByteArray)] ?_; (with_reducible refine (strings_CutPrefix.calls a0 (⟨#[47]⟩ : ByteArray) t123 true _ A3.out).mono ?_); rintro e w' ⟨rfl, ⟨nd, rfl⟩⟩; refine ⟨_, rfl, ?_⟩))))
    (try (go_step3; go_wp2_with (first | ((with_reducible refine gate_callee (f := 64) rfl ?_); refine gl_ (some 15) Tryz.func64 #[.string a0, .string (⟨#[47]⟩ : ByteArray)] ?_; (with_reducible refine (strings_CutPrefix.calls a0 (⟨#[47]⟩ : ByteArray) t123 true _ A3.out).mono ?_); rintro e w' ⟨rfl, ⟨nd, rfl⟩⟩; refine ⟨_, rfl, ?_⟩))))
    go_loopg [4, 6] k (fun kq v4 v6 w' => ∃ (x4_1 : ByteArray) (x6_1 : List ByteArray), v4 = .string x4_1 ∧ Aside0 (path_Split.l0 kq x4_1 x6_1 = some (r1, r2)) ∧ Aside0 (kq ≤ k) ∧ Aside0 (Kd.R Kd.string 9 w' w.heap.size (fun _ => True) v6 x6_1) ∧ Aside0 (Below w.heap.size w w'))
    case atStart => exact ⟨(t123), (([] : List ByteArray)), rfl, H', ⟨Nat.le_refl _⟩, ⟨by first | exact Kd.R_nil _ _ _ _ _ | exact Kd.N_nil _ _ _ _ _ | exact Kd.V_nil _ _ _ _ _ | exact Kd.Q_nil _ _ _ _ _ | exact Kd.S_nil _ _ _ _ _⟩, ⟨bel_⟩⟩
    case round =>
     clear H'
     obtain ⟨x4_1, x6_1, rfl, HA, HK1, HO_6, HB⟩ := hrel
     cases gk with
     | zero => exact absurd HA.out (by simp [path_Split.l0])
     | succ k1 =>
      have H := HA.out
      clear HA
      simp only [path_Split.l0] at H
      replace H := Option.bind_eq_some_iff.mp H
      obtain ⟨⟨t125, t126, t127⟩, A60, H⟩ := H
      try dsimp only at H
      have A6 := ak_ A60
      clear A60
      replace H := Option.bind_eq_some_iff.mp H
      obtain ⟨t128, A70, H⟩ := H
      try dsimp only at H
      have A7 := ak_ A70
      clear A70
      by_cases c8 : t128 = true
      ·subst c8
       rw [if_pos rfl] at H
       by_cases c9 : x6_1.length < 8796093022208
       ·rw [if_pos c9] at H
        have LMc9 := ak_ c9
        clear c9
        obtain ⟨y129, hy129⟩ : ∃ y_ : List ByteArray, y_ = (x6_1 ++ [t125]) := ⟨_, rfl⟩
        replace H : (if t127 = true then (path_Split.l0 k1 t126 y129) else (some (y129, 0))) = some (r1, r2) := by first | (rw [hy129]; with_reducible exact H) | (have H2_ := (Option.bind_some _ _).symm.trans H; rw [hy129]; with_reducible exact H2_) | (have H2_ := (Option.bind_some _ _).symm.trans H; with_reducible exact H2_) | with_reducible exact H | (rw [hy129]; exact H) | exact H
        have Ny129 := ak_ hy129
        clear hy129
        by_cases c10 : t127 = true
        ·subst c10
         rw [if_pos rfl] at H
         have H' := ak_ H
         clear H
         go_wp2_with (first | ((with_reducible refine gate_callee (f := 65) rfl ?_); refine gl_ (some 24) Tryz.func65 #[.string x4_1, .string (⟨#[47]⟩ : ByteArray)] ?_; (with_reducible refine (strings_Cut.calls x4_1 (⟨#[47]⟩ : ByteArray) t125 t126 true _ A6.out).mono ?_); rintro e w' ⟨rfl, ⟨nd, rfl⟩⟩; refine ⟨_, rfl, ?_⟩) | ((with_reducible refine gate_callee (f := 66) rfl ?_); refine gl_ (some 29) Tryz.func66 #[.string t125] ?_; (with_reducible refine (path_Name.calls t125 true _ A7.out).mono ?_); rintro e w' ⟨rfl, ⟨nd, rfl⟩⟩; refine ⟨_, rfl, ?_⟩) | ((with_reducible refine gate_builtin (b := .append) (xs := #[.tmp 31, .tmp 33]) rfl ?_); at_builtin; refine Kd.R_append Kd.string (w0 := w) w.heap.size rfl (.tmp 31) (.tmp 33) 23 9 (.string ⟨#[]⟩) 16 rfl Tryz.underlying23 info9 rfl (by decide) (by omega) u6 x6_1 t125 [.string t125] (fun _ => True) (fun _ => False) rfl rfl ?aP (fun _ hk => hk.elim) ?aF ?aO ?aB ?aS ?aL ?_; (case aP => exact rfl); (case aB => exact bel_); (case aF => exact (fun _ _ => trivial)); (case aO => exact (ra_ HO_6)); (case aS => exact (below_size bel_)); (case aL => have := LMc9.out; omega); intro v130 w11 ho hb hg hat; rw [← Ny129.out] at ho; have HO131 := ak_ (ho); replace HB := ak_ (hb); clear HO_6; clear ho hb hg hat))
         (try (refine wp_scope_post ?_; go_wp2_with (first | ((with_reducible refine gate_callee (f := 65) rfl ?_); refine gl_ (some 24) Tryz.func65 #[.string x4_1, .string (⟨#[47]⟩ : ByteArray)] ?_; (with_reducible refine (strings_Cut.calls x4_1 (⟨#[47]⟩ : ByteArray) t125 t126 true _ A6.out).mono ?_); rintro e w' ⟨rfl, ⟨nd, rfl⟩⟩; refine ⟨_, rfl, ?_⟩) | ((with_reducible refine gate_callee (f := 66) rfl ?_); refine gl_ (some 29) Tryz.func66 #[.string t125] ?_; (with_reducible refine (path_Name.calls t125 true _ A7.out).mono ?_); rintro e w' ⟨rfl, ⟨nd, rfl⟩⟩; refine ⟨_, rfl, ?_⟩) | ((with_reducible refine gate_builtin (b := .append) (xs := #[.tmp 31, .tmp 33]) rfl ?_); at_builtin; refine Kd.R_append Kd.string (w0 := w) w.heap.size rfl (.tmp 31) (.tmp 33) 23 9 (.string ⟨#[]⟩) 16 rfl Tryz.underlying23 info9 rfl (by decide) (by omega) u6 x6_1 t125 [.string t125] (fun _ => True) (fun _ => False) rfl rfl ?aP (fun _ hk => hk.elim) ?aF ?aO ?aB ?aS ?aL ?_; (case aP => exact rfl); (case aB => exact bel_); (case aF => exact (fun _ _ => trivial)); (case aO => exact (ra_ HO_6)); (case aS => exact (below_size bel_)); (case aL => have := LMc9.out; omega); intro v130 w11 ho hb hg hat; rw [← Ny129.out] at ho; have HO131 := ak_ (ho); replace HB := ak_ (hb); clear HO_6; clear ho hb hg hat))))
         (try (go_step3; go_wp2_with (first | ((with_reducible refine gate_callee (f := 65) rfl ?_); refine gl_ (some 24) Tryz.func65 #[.string x4_1, .string (⟨#[47]⟩ : ByteArray)] ?_; (with_reducible refine (strings_Cut.calls x4_1 (⟨#[47]⟩ : ByteArray) t125 t126 true _ A6.out).mono ?_); rintro e w' ⟨rfl, ⟨nd, rfl⟩⟩; refine ⟨_, rfl, ?_⟩) | ((with_reducible refine gate_callee (f := 66) rfl ?_); refine gl_ (some 29) Tryz.func66 #[.string t125] ?_; (with_reducible refine (path_Name.calls t125 true _ A7.out).mono ?_); rintro e w' ⟨rfl, ⟨nd, rfl⟩⟩; refine ⟨_, rfl, ?_⟩) | ((with_reducible refine gate_builtin (b := .append) (xs := #[.tmp 31, .tmp 33]) rfl ?_); at_builtin; refine Kd.R_append Kd.string (w0 := w) w.heap.size rfl (.tmp 31) (.tmp 33) 23 9 (.string ⟨#[]⟩) 16 rfl Tryz.underlying23 info9 rfl (by decide) (by omega) u6 x6_1 t125 [.string t125] (fun _ => True) (fun _ => False) rfl rfl ?aP (fun _ hk => hk.elim) ?aF ?aO ?aB ?aS ?aL ?_; (case aP => exact rfl); (case aB => exact bel_); (case aF => exact (fun _ _ => trivial)); (case aO => exact (ra_ HO_6)); (case aS => exact (below_size bel_)); (case aL => have := LMc9.out; omega); intro v130 w11 ho hb hg hat; rw [← Ny129.out] at ho; have HO131 := ak_ (ho); replace HB := ak_ (hb); clear HO_6; clear ho hb hg hat))))
         go_roundg k1
         case measure => have := HK1.out; omega
         case rel => exact ⟨(t126), (y129), rfl, H', ⟨by have := HK1.out; omega⟩, ⟨ra_ HO131⟩, ⟨bel_⟩⟩
        replace c10 := Bool.eq_false_iff.mpr c10
        subst c10
        rw [if_neg (show ¬ (false = true) by decide)] at H
        simp only [Option.some.injEq, Prod.mk.injEq] at H
        obtain ⟨rfl, rfl⟩ := H
        go_wp2_with (first | ((with_reducible refine gate_callee (f := 65) rfl ?_); refine gl_ (some 24) Tryz.func65 #[.string x4_1, .string (⟨#[47]⟩ : ByteArray)] ?_; (with_reducible refine (strings_Cut.calls x4_1 (⟨#[47]⟩ : ByteArray) t125 t126 false _ A6.out).mono ?_); rintro e w' ⟨rfl, ⟨nd, rfl⟩⟩; refine ⟨_, rfl, ?_⟩) | ((with_reducible refine gate_callee (f := 66) rfl ?_); refine gl_ (some 29) Tryz.func66 #[.string t125] ?_; (with_reducible refine (path_Name.calls t125 true _ A7.out).mono ?_); rintro e w' ⟨rfl, ⟨nd, rfl⟩⟩; refine ⟨_, rfl, ?_⟩) | ((with_reducible refine gate_builtin (b := .append) (xs := #[.tmp 31, .tmp 33]) rfl ?_); at_builtin; refine Kd.R_append Kd.string (w0 := w) w.heap.size rfl (.tmp 31) (.tmp 33) 23 9 (.string ⟨#[]⟩) 16 rfl Tryz.underlying23 info9 rfl (by decide) (by omega) u6 x6_1 t125 [.string t125] (fun _ => True) (fun _ => False) rfl rfl ?aP (fun _ hk => hk.elim) ?aF ?aO ?aB ?aS ?aL ?_; (case aP => exact rfl); (case aB => exact bel_); (case aF => exact (fun _ _ => trivial)); (case aO => exact (ra_ HO_6)); (case aS => exact (below_size bel_)); (case aL => have := LMc9.out; omega); intro v130 w12 ho hb hg hat; rw [← Ny129.out] at ho; have HO131 := ak_ (ho); replace HB := ak_ (hb); clear HO_6; clear ho hb hg hat))
        (try (refine wp_scope_post ?_; go_wp2_with (first | ((with_reducible refine gate_callee (f := 65) rfl ?_); refine gl_ (some 24) Tryz.func65 #[.string x4_1, .string (⟨#[47]⟩ : ByteArray)] ?_; (with_reducible refine (strings_Cut.calls x4_1 (⟨#[47]⟩ : ByteArray) t125 t126 false _ A6.out).mono ?_); rintro e w' ⟨rfl, ⟨nd, rfl⟩⟩; refine ⟨_, rfl, ?_⟩) | ((with_reducible refine gate_callee (f := 66) rfl ?_); refine gl_ (some 29) Tryz.func66 #[.string t125] ?_; (with_reducible refine (path_Name.calls t125 true _ A7.out).mono ?_); rintro e w' ⟨rfl, ⟨nd, rfl⟩⟩; refine ⟨_, rfl, ?_⟩) | ((with_reducible refine gate_builtin (b := .append) (xs := #[.tmp 31, .tmp 33]) rfl ?_); at_builtin; refine Kd.R_append Kd.string (w0 := w) w.heap.size rfl (.tmp 31) (.tmp 33) 23 9 (.string ⟨#[]⟩) 16 rfl Tryz.underlying23 info9 rfl (by decide) (by omega) u6 x6_1 t125 [.string t125] (fun _ => True) (fun _ => False) rfl rfl ?aP (fun _ hk => hk.elim) ?aF ?aO ?aB ?aS ?aL ?_; (case aP => exact rfl); (case aB => exact bel_); (case aF => exact (fun _ _ => trivial)); (case aO => exact (ra_ HO_6)); (case aS => exact (below_size bel_)); (case aL => have := LMc9.out; omega); intro v130 w12 ho hb hg hat; rw [← Ny129.out] at ho; have HO131 := ak_ (ho); replace HB := ak_ (hb); clear HO_6; clear ho hb hg hat))))
        (try (go_step3; go_wp2_with (first | ((with_reducible refine gate_callee (f := 65) rfl ?_); refine gl_ (some 24) Tryz.func65 #[.string x4_1, .string (⟨#[47]⟩ : ByteArray)] ?_; (with_reducible refine (strings_Cut.calls x4_1 (⟨#[47]⟩ : ByteArray) t125 t126 false _ A6.out).mono ?_); rintro e w' ⟨rfl, ⟨nd, rfl⟩⟩; refine ⟨_, rfl, ?_⟩) | ((with_reducible refine gate_callee (f := 66) rfl ?_); refine gl_ (some 29) Tryz.func66 #[.string t125] ?_; (with_reducible refine (path_Name.calls t125 true _ A7.out).mono ?_); rintro e w' ⟨rfl, ⟨nd, rfl⟩⟩; refine ⟨_, rfl, ?_⟩) | ((with_reducible refine gate_builtin (b := .append) (xs := #[.tmp 31, .tmp 33]) rfl ?_); at_builtin; refine Kd.R_append Kd.string (w0 := w) w.heap.size rfl (.tmp 31) (.tmp 33) 23 9 (.string ⟨#[]⟩) 16 rfl Tryz.underlying23 info9 rfl (by decide) (by omega) u6 x6_1 t125 [.string t125] (fun _ => True) (fun _ => False) rfl rfl ?aP (fun _ hk => hk.elim) ?aF ?aO ?aB ?aS ?aL ?_; (case aP => exact rfl); (case aB => exact bel_); (case aF => exact (fun _ _ => trivial)); (case aO => exact (ra_ HO_6)); (case aS => exact (below_size bel_)); (case aL => have := LMc9.out; omega); intro v130 w12 ho hb hg hat; rw [← Ny129.out] at ho; have HO131 := ak_ (ho); replace HB := ak_ (hb); clear HO_6; clear ho hb hg hat))))
        go_ret2
        exact ⟨_, rfl, by (with_reducible repeat (first | apply Kd.R_alloc | apply Kd.R_drewN | apply Kd.R_drew)); exact HO131.out, bel_⟩
       rw [if_neg c9] at H
       exact absurd H (by simp)
      replace c8 := Bool.eq_false_iff.mpr c8
      subst c8
      rw [if_neg (show ¬ (false = true) by decide)] at H
      simp only [Option.some.injEq, Prod.mk.injEq] at H
      obtain ⟨rfl, rfl⟩ := H
      go_wp2_with (first | ((with_reducible refine gate_callee (f := 65) rfl ?_); refine gl_ (some 24) Tryz.func65 #[.string x4_1, .string (⟨#[47]⟩ : ByteArray)] ?_; (with_reducible refine (strings_Cut.calls x4_1 (⟨#[47]⟩ : ByteArray) t125 t126 t127 _ A6.out).mono ?_); rintro e w' ⟨rfl, ⟨nd, rfl⟩⟩; refine ⟨_, rfl, ?_⟩) | ((with_reducible refine gate_callee (f := 66) rfl ?_); refine gl_ (some 29) Tryz.func66 #[.string t125] ?_; (with_reducible refine (path_Name.calls t125 false _ A7.out).mono ?_); rintro e w' ⟨rfl, ⟨nd, rfl⟩⟩; refine ⟨_, rfl, ?_⟩))
      (try (refine wp_scope_post ?_; go_wp2_with (first | ((with_reducible refine gate_callee (f := 65) rfl ?_); refine gl_ (some 24) Tryz.func65 #[.string x4_1, .string (⟨#[47]⟩ : ByteArray)] ?_; (with_reducible refine (strings_Cut.calls x4_1 (⟨#[47]⟩ : ByteArray) t125 t126 t127 _ A6.out).mono ?_); rintro e w' ⟨rfl, ⟨nd, rfl⟩⟩; refine ⟨_, rfl, ?_⟩) | ((with_reducible refine gate_callee (f := 66) rfl ?_); refine gl_ (some 29) Tryz.func66 #[.string t125] ?_; (with_reducible refine (path_Name.calls t125 false _ A7.out).mono ?_); rintro e w' ⟨rfl, ⟨nd, rfl⟩⟩; refine ⟨_, rfl, ?_⟩))))
      (try (go_step3; go_wp2_with (first | ((with_reducible refine gate_callee (f := 65) rfl ?_); refine gl_ (some 24) Tryz.func65 #[.string x4_1, .string (⟨#[47]⟩ : ByteArray)] ?_; (with_reducible refine (strings_Cut.calls x4_1 (⟨#[47]⟩ : ByteArray) t125 t126 t127 _ A6.out).mono ?_); rintro e w' ⟨rfl, ⟨nd, rfl⟩⟩; refine ⟨_, rfl, ?_⟩) | ((with_reducible refine gate_callee (f := 66) rfl ?_); refine gl_ (some 29) Tryz.func66 #[.string t125] ?_; (with_reducible refine (path_Name.calls t125 false _ A7.out).mono ?_); rintro e w' ⟨rfl, ⟨nd, rfl⟩⟩; refine ⟨_, rfl, ?_⟩))))
      go_ret2
      exact ⟨_, rfl, by first | exact Kd.R_nil _ _ _ _ _ | exact Kd.N_nil _ _ _ _ _ | exact Kd.V_nil _ _ _ _ _ | exact Kd.Q_nil _ _ _ _ _ | exact Kd.S_nil _ _ _ _ _, bel_⟩
  case' n2_ =>
   replace c4 := Bool.eq_false_iff.mpr c4
   subst c4
   rw [if_neg (show ¬ (false = true) by decide)] at H
   simp only [Option.some.injEq, Prod.mk.injEq] at H
   obtain ⟨rfl, rfl⟩ := H
   refine ?z2_
 case p2_ | n2_ =>
  go_enter Tryz.func39, Tryz.ntmps39
  go_wp2_with (first | ((with_reducible refine gate_callee (f := 64) rfl ?_); refine gl_ (some 15) Tryz.func64 #[.string a0, .string (⟨#[47]⟩ : ByteArray)] ?_; (with_reducible refine (strings_CutPrefix.calls a0 (⟨#[47]⟩ : ByteArray) t123 true _ A3.out).mono ?_); rintro e w' ⟨rfl, ⟨nd, rfl⟩⟩; refine ⟨_, rfl, ?_⟩) | ((with_reducible refine gate_callee (f := 64) rfl ?_); refine gl_ (some 15) Tryz.func64 #[.string a0, .string (⟨#[47]⟩ : ByteArray)] ?_; (with_reducible refine (strings_CutPrefix.calls a0 (⟨#[47]⟩ : ByteArray) t123 false _ A3.out).mono ?_); rintro e w' ⟨rfl, ⟨nd, rfl⟩⟩; refine ⟨_, rfl, ?_⟩))
  (try (refine wp_scope_post ?_; go_wp2_with (first | ((with_reducible refine gate_callee (f := 64) rfl ?_); refine gl_ (some 15) Tryz.func64 #[.string a0, .string (⟨#[47]⟩ : ByteArray)] ?_; (with_reducible refine (strings_CutPrefix.calls a0 (⟨#[47]⟩ : ByteArray) t123 true _ A3.out).mono ?_); rintro e w' ⟨rfl, ⟨nd, rfl⟩⟩; refine ⟨_, rfl, ?_⟩) | ((with_reducible refine gate_callee (f := 64) rfl ?_); refine gl_ (some 15) Tryz.func64 #[.string a0, .string (⟨#[47]⟩ : ByteArray)] ?_; (with_reducible refine (strings_CutPrefix.calls a0 (⟨#[47]⟩ : ByteArray) t123 false _ A3.out).mono ?_); rintro e w' ⟨rfl, ⟨nd, rfl⟩⟩; refine ⟨_, rfl, ?_⟩))))
  (try (go_step3; go_wp2_with (first | ((with_reducible refine gate_callee (f := 64) rfl ?_); refine gl_ (some 15) Tryz.func64 #[.string a0, .string (⟨#[47]⟩ : ByteArray)] ?_; (with_reducible refine (strings_CutPrefix.calls a0 (⟨#[47]⟩ : ByteArray) t123 true _ A3.out).mono ?_); rintro e w' ⟨rfl, ⟨nd, rfl⟩⟩; refine ⟨_, rfl, ?_⟩) | ((with_reducible refine gate_callee (f := 64) rfl ?_); refine gl_ (some 15) Tryz.func64 #[.string a0, .string (⟨#[47]⟩ : ByteArray)] ?_; (with_reducible refine (strings_CutPrefix.calls a0 (⟨#[47]⟩ : ByteArray) t123 false _ A3.out).mono ?_); rintro e w' ⟨rfl, ⟨nd, rfl⟩⟩; refine ⟨_, rfl, ?_⟩))))
  go_ret2
  exact ⟨_, rfl, by first | exact Kd.R_nil _ _ _ _ _ | exact Kd.N_nil _ _ _ _ _ | exact Kd.V_nil _ _ _ _ _ | exact Kd.Q_nil _ _ _ _ _ | exact Kd.S_nil _ _ _ _ _, bel_⟩
end Go.Proofs.YtpnmajblhgnkoaaGreat.Z
end
