/- This session's own texts, laid together (a part that several claims share). -/
import Derived.Test.YtfkofbabeghgkaaGreatMB2
import Derived.Test.YtfkofbabeghgkaaGreatMB1
import Derived.Laws.LoneSync
import Derived.StillTailTactics
import Derived.Laws.BitsLemmas
import Derived.WalkSpells
import Derived.IntWalk
import Derived.Deep.DeepFit
import Derived.Maps.AppendAt
import Derived.Shelf.RegionOpenPlain
import Derived.Lib.AppendZerosOnto
import Derived.Laws.NewBlocks
import Derived.Lib.Strings
open Go.RowKit Go.Proofs.YtfkofbabeghgkaaGreatW.PrintWords Go.Proofs.YtfkofbabeghgkaaGreatW.PrintLast Go.Proofs.YtfkofbabeghgkaaGreatW.PrintMore
set_option linter.unusedVariables false
set_option linter.unusedSimpArgs false
section
namespace Go.Proofs.YtfkofbabeghgkaaGreat.Z
theorem wordsF_len (s : ByteArray) : (wordsF s).length = 64 := by
  have h1 : ∀ d t l, (wouter s d t l).length = l.length := by
    intro d
    induction d with
    | zero => intro t l; rfl
    | succ d ih => intro t l; rw [wouter, ih, winner_len]
  have h2 : ∀ d t l, (wext d t l).length = l.length := by
    intro d
    induction d with
    | zero => intro t l; rfl
    | succ d ih => intro t l; rw [wext, ih, List.length_set]
  rw [wordsF, h2, h1]
  rfl
theorem agg_at {l : List Int} {V : Array Value} (h : V = (l.map (fun x => Value.int .u32 x)).toArray) (i : Int) (h0 : 0 ≤ i) (hi : i < l.length) : V[i.toNat]? = some (.int .u32 (rd l i)) := by
  subst h
  rw [List.getElem?_toArray, List.getElem?_map, rd, List.getD_eq_getElem?_getD, List.getElem?_eq_getElem (show i.toNat < l.length by omega)]
  rfl
theorem index_words {V : Array Value} {x v : Int} (h0 : 0 ≤ x) (h1 : x < 64) (hV : V[x.toNat]? = some (.int .u32 v)) (W : World) : (Instr.index 170 (.agg V) (.int .i64 x)).run Tryz.prog W = .ok (.int .u32 v) W := by
  have hs : (Tryz.prog.info? 63).map (·.size) = some 1 := by kernel_rfl
  cases hq : Tryz.prog.info? 63 with
  | none => simp [hq] at hs
  | some i =>
    have hi : i.size = 1 := by simpa [hq] using hs
    simp [Instr.index, asIntOf, run_underlying Tryz.underlying170, go_sem, h0, h1, sizeOf, typeInfo, hq, hi, Sem.run_bind]
    rw [hV]
    rfl
theorem index_eight {V : Array Value} {x v : Int} (h0 : 0 ≤ x) (h1 : x < 8) (hV : V[x.toNat]? = some (.int .u32 v)) (W : World) : (Instr.index 127 (.agg V) (.int .i64 x)).run Tryz.prog W = .ok (.int .u32 v) W := by
  have hs : (Tryz.prog.info? 63).map (·.size) = some 1 := by kernel_rfl
  cases hq : Tryz.prog.info? 63 with
  | none => simp [hq] at hs
  | some i =>
    have hi : i.size = 1 := by simpa [hq] using hs
    simp [Instr.index, asIntOf, run_underlying Tryz.underlying127, go_sem, h0, h1, sizeOf, typeInfo, hq, hi, Sem.run_bind]
    rw [hV]
    rfl
theorem below_le {A B : Nat} {w w' : World} (h : Below A w w') (hle : B ≤ A) : Below B w w' := ⟨h.os, h.tape, h.output, h.size, fun k hk => h.block k (by omega)⟩
theorem Step.below {g : Nat} {w w1 w2 : World} {o : Obj} (h : Step g w w1 o) (hb : Below w1.heap.size w1 w2) : Step g w w2 o := by
  have hg : g < w1.heap.size := blk_lt h.1
  exact h.trans ⟨blk_below h.1 hb, ⟨hb.size, fun k hk _ _ => hb.block k hk⟩, fun B hB => below_le hb (by omega)⟩
def T1 (K W : List Int) (x e f g z : Int) : Int := IntKind.u32.wrap (IntKind.u32.wrap (IntKind.u32.wrap (IntKind.u32.wrap (z + Go.bits .xor .u32 (Go.bits .xor .u32 (rot e 6) (rot e 11)) (rot e 25)) + Go.bits .xor .u32 g (Go.bits .and .u32 e (Go.bits .xor .u32 f g))) + rd K x) + rd W x)
def T2 (a b c : Int) : Int := (Go.bits .xor .u32 (Go.bits .xor .u32 (rot a 2) (rot a 13)) (rot a 22) + Go.bits .or .u32 (Go.bits .and .u32 a b) (Go.bits .and .u32 c (Go.bits .or .u32 a b))) % 4294967296
structure Sha where (a b c d e f g z : Int)
def rounds (K W : List Int) : Nat → Int → Sha → Sha
  | 0, _, s => s
  | n + 1, x, s => rounds K W n (x + 1) ⟨(T1 K W x s.e s.f s.g s.z + T2 s.a s.b s.c) % 4294967296, s.a, s.b, s.c, (s.d + T1 K W x s.e s.f s.g s.z) % 4294967296, s.e, s.f, s.g⟩
def addF (v : List Int) : Nat → Int → List Int → List Int
  | 0, _, l => l
  | n + 1, x, l => addF v n (x + 1) (l.set x.toNat ((rd l x + rd v x) % 4294967296))
def Sha.list (s : Sha) : List Int := [s.a, s.b, s.c, s.d, s.e, s.f, s.g, s.z]
set_option maxRecDepth 100000 in
set_option maxHeartbeats 6400000 in
theorem take_calls (s : ByteArray) (hs : s.size = 64) (gh gk : Nat) (K : List Int) (hK : K.length = 64) (a0 a1 a2 a3 a4 a5 a6 a7 : Int) (w : World) (hh : w.heap[gh]? = some (ws 128 [a0, a1, a2, a3, a4, a5, a6, a7])) (hk : w.heap[gk]? = some (ws 170 K)) :
    Calls Tryz.prog 74 #[.pointer (some ⟨gh, 0, none⟩), .string s, .pointer (some ⟨gk, 0, none⟩)] w fun e w' => e = .returned (.tuple #[]) ∧ Step gh w w' (ws 128 (addF (rounds K (wordsF s) 64 0 ⟨a0, a1, a2, a3, a4, a5, a6, a7⟩).list 8 0 [a0, a1, a2, a3, a4, a5, a6, a7])) := by
  have HA := ak_ hs
  have HKL := ak_ hK
  have NE := ak_ (show gk ≠ gh by
    intro e
    subst e
    have := hh.symm.trans hk
    simp [ws] at this)
  have HH := ak_ (Step.refl hh)
  have HK := ak_ hk
  have r0 : w.cell? ⟨gh, 0, none⟩ = some (.int .u32 a0) := (blk_cell hh 0).trans rfl
  have r1 : w.cell? ⟨gh, 1, none⟩ = some (.int .u32 a1) := (blk_cell hh 1).trans rfl
  have r2 : w.cell? ⟨gh, 2, none⟩ = some (.int .u32 a2) := (blk_cell hh 2).trans rfl
  have r3 : w.cell? ⟨gh, 3, none⟩ = some (.int .u32 a3) := (blk_cell hh 3).trans rfl
  have r4 : w.cell? ⟨gh, 4, none⟩ = some (.int .u32 a4) := (blk_cell hh 4).trans rfl
  have r5 : w.cell? ⟨gh, 5, none⟩ = some (.int .u32 a5) := (blk_cell hh 5).trans rfl
  have r6 : w.cell? ⟨gh, 6, none⟩ = some (.int .u32 a6) := (blk_cell hh 6).trans rfl
  have r7 : w.cell? ⟨gh, 7, none⟩ = some (.int .u32 a7) := (blk_cell hh 7).trans rfl
  clear hs hK hh hk
  go_enter Tryz.func74, Tryz.ntmps74
  go_wp2
  refine wp_region_still_lit (by kernel_rfl) (by kernel_rfl) ?_
  repeat still_step
  refine wpStill_nil ?_
  change Exit.then _ _ _ _ w.drew
  have HD := ak_ (And.intro HH.out.drew (blk_drew HK.out))
  obtain ⟨wd, hwd⟩ : ∃ wd, wd = w.drew := ⟨_, rfl⟩
  rw [← hwd] at HD ⊢
  clear hwd r0 r1 r2 r3 r4 r5 r6 r7
  go_wp2_with (go_at_call 99; refine (words_calls s HA.out _).mono ?_; rintro e w2 ⟨rfl, hb⟩; have H2 := ak_ (And.intro (HD.out.1.below hb) (blk_below HD.out.2 hb)); obtain ⟨V, hV⟩ : ∃ V : Array Value, V = ((wordsF s).map (fun x => Value.int .u32 x)).toArray := ⟨_, rfl⟩; rw [← hV]; have HV := ak_ hV; clear hb hV)
  go_loopw [6, 7, 8, 9, 10, 11, 12, 13, 54] (fun va vb vc vd ve vf vg vz i wr => ∃ (x a b c d e f g z : Int), i = .int .i64 x ∧ va = .int .u32 a ∧ vb = .int .u32 b ∧ vc = .int .u32 c ∧ vd = .int .u32 d ∧ ve = .int .u32 e ∧ vf = .int .u32 f ∧ vg = .int .u32 g ∧ vz = .int .u32 z ∧ Aside0 (0 ≤ x ∧ x ≤ 64) ∧ Aside0 (Step gh w wr (ws 128 [a0, a1, a2, a3, a4, a5, a6, a7]) ∧ wr.heap[gk]? = some (ws 170 K)) ∧ Aside0 (rounds K (wordsF s) (64 - x.toNat) x ⟨a, b, c, d, e, f, g, z⟩ = rounds K (wordsF s) 64 0 ⟨a0, a1, a2, a3, a4, a5, a6, a7⟩)) (fun _ _ _ _ _ _ _ _ i _ => 64 - (intOf i).toNat)
  case atStart => exact ⟨0, _, _, _, _, _, _, _, _, rfl, rfl, rfl, rfl, rfl, rfl, rfl, rfl, rfl, ⟨by omega⟩, H2, ⟨rfl⟩⟩
  case round =>
    obtain ⟨x, a, b, c, d, e, f, g, z, rfl, rfl, rfl, rfl, rfl, rfl, rfl, rfl, rfl, HX, HS, HF⟩ := hrel
    obtain ⟨hx0, hx1⟩ := HX.out
    by_cases hlt : x < 64
    · have hlt2 : decide (x < 64) = true := decide_eq_true hlt
      have q0 : ((0 : Int) ≤ x) = True := eq_true hx0
      have q1 : (x < (64 : Int)) = True := eq_true hlt
      have q2 := agg_at HV.out x hx0 (by rw [wordsF_len]; exact hlt)
      have k0 := ws_at HS.out.2 x hx0 (by rw [HKL.out]; exact hlt)
      have ix := index_words hx0 hlt q2
      have L := ak_ hlt
      have hF := HF.out
      rw [show 64 - x.toNat = (64 - (x + 1).toNat) + 1 by omega, rounds] at hF
      have HF' := ak_ hF
      have ew : wrap64 (x + 1) = x + 1 := by unfold wrap64; omega
      have EW := ak_ ew
      clear hlt hx0 hx1 hF ew
      go_wp2
      refine wp_region_still_lit (by kernel_rfl) (by kernel_rfl) ?_
      repeat still_step
      still_call (right_same _ 6 _ _ (rot_some _ 6 (by kernel_rfl)))
      repeat still_step
      still_call (right_same _ 11 _ _ (rot_some _ 11 (by kernel_rfl)))
      repeat still_step
      still_call (right_same _ 25 _ _ (rot_some _ 25 (by kernel_rfl)))
      repeat still_step
      refine wpStill_nil ?_
      change Exit.then _ _ _ _ wr.drew
      have HE := ak_ (And.intro HS.out.1.drew (blk_drew HS.out.2))
      obtain ⟨we, hwe⟩ : ∃ we, we = wr.drew := ⟨_, rfl⟩
      rw [← hwe] at HE ⊢
      obtain ⟨t1, ht1⟩ : ∃ t1, t1 = T1 K (wordsF s) x e f g z := ⟨_, rfl⟩
      have ht1' := ht1
      unfold T1 at ht1'
      rw [← ht1']
      have HT1 := ak_ ht1
      clear hwe k0 ix q2 ht1 ht1'
      go_wp2_with (first
        | (go_at_call 100; with_reducible refine (right_same _ 2 _ _ (rot_some _ 2 (by kernel_rfl))).mono ?_; rintro e w' ⟨rfl, rfl⟩)
        | (go_at_call 100; with_reducible refine (right_same _ 13 _ _ (rot_some _ 13 (by kernel_rfl))).mono ?_; rintro e w' ⟨rfl, rfl⟩)
        | (go_at_call 100; with_reducible refine (right_same _ 22 _ _ (rot_some _ 22 (by kernel_rfl))).mono ?_; rintro e w' ⟨rfl, rfl⟩))
      have hl := L.out
      have hx := HX.out
      have hF := HF'.out
      simp only [← HT1.out] at hF
      go_roundw
      case rel => exact ⟨x + 1, _, _, _, _, _, _, _, _, by rw [EW.out], rfl, rfl, rfl, rfl, rfl, rfl, rfl, rfl, ⟨by omega⟩, HE, ⟨hF⟩⟩
      case measure =>
        simp [EW.out, intOf]
        omega
    · have hge : decide (x < 64) = false := decide_eq_false hlt
      have hF := HF.out
      rw [show 64 - x.toNat = 0 by omega, rounds] at hF
      have HF2 := ak_ hF
      clear hlt hx0 hx1 hF HF
      go_wp2
      go_loopw [124] (fun i wr => ∃ (y : Int) (l : List Int), i = .int .i64 y ∧ Aside0 (0 ≤ y ∧ y ≤ 8) ∧ Aside0 (Step gh w wr (ws 128 l) ∧ l.length = 8) ∧ Aside0 (addF (Sha.list ⟨a, b, c, d, e, f, g, z⟩) (8 - y.toNat) y l = addF (Sha.list ⟨a, b, c, d, e, f, g, z⟩) 8 0 [a0, a1, a2, a3, a4, a5, a6, a7])) (fun i _ => 8 - (intOf i).toNat)
      case atStart => exact ⟨0, _, rfl, ⟨by omega⟩, ⟨HS.out.1, rfl⟩, ⟨rfl⟩⟩
      case round =>
        obtain ⟨y, l, rfl, HY, HT, HG⟩ := hrel
        obtain ⟨hy0, hy1⟩ := HY.out
        have hll := HT.out.2
        by_cases hly : y < 8
        · have hly2 : decide (y < 8) = true := decide_eq_true hly
          have q0 : ((0 : Int) ≤ y) = True := eq_true hy0
          have q1 : (y < (8 : Int)) = True := eq_true hly
          have q2 := agg_at (V := #[.int .u32 a, .int .u32 b, .int .u32 c, .int .u32 d, .int .u32 e, .int .u32 f, .int .u32 g, .int .u32 z]) (l := Sha.list ⟨a, b, c, d, e, f, g, z⟩) rfl y hy0 hly
          have ix := index_eight hy0 hly q2
          have hG := HG.out
          rw [show 8 - y.toNat = (8 - (y + 1).toNat) + 1 by omega, addF] at hG
          obtain ⟨X, hX⟩ : ∃ X, X = rd (Sha.list ⟨a, b, c, d, e, f, g, z⟩) y := ⟨_, rfl⟩
          rw [← hX] at ix hG
          have HG' := ak_ hG
          have k0 := ws_at HT.out.1.1 y hy0 (by rw [hll]; exact hly)
          have LY := ak_ hly
          have ew : wrap64 (y + 1) = y + 1 := by unfold wrap64; omega
          have EW := ak_ ew
          clear hly hy0 hy1 hG ew q2 hX hll
          go_wp2
          go_still_tail 9, (by kernel_rfl)
          change wpList _ _ _ _ _ wr.drew
          have HE := ak_ HT.out.1.drew
          obtain ⟨we, hwe⟩ : ∃ we, we = wr.drew := ⟨_, rfl⟩
          rw [← hwe] at HE ⊢
          have k1 := ws_at HE.out.1 y (of_eq_true q0) (by rw [HT.out.2]; exact of_eq_true q1)
          have y1 : we.frozen? ⟨gh, y.toNat, none⟩ = false := blk_frozen HE.out.1 _
          clear hwe k0
          go_wp2
          have hl := LY.out
          have hy := HY.out
          go_roundw
          case rel => exact ⟨y + 1, _, by rw [EW.out], ⟨by omega⟩, ⟨HE.out.ws _ _, by rw [List.length_set]; exact HT.out.2⟩, HG'⟩
          case measure =>
            simp [EW.out, intOf]
            omega
        · have hge : decide (y < 8) = false := decide_eq_false hly
          have hG := HG.out
          rw [show 8 - y.toNat = 0 by omega, addF] at hG
          clear hly hy0 hy1 hll HG
          go_wp2
          go_end0
          exact ⟨rfl, by rw [← HF2.out, ← hG]; exact HT.out.1⟩
def sK : List Int := [1116352408, 1899447441, 3049323471, 3921009573, 961987163, 1508970993, 2453635748, 2870763221, 3624381080, 310598401, 607225278, 1426881987, 1925078388, 2162078206, 2614888103, 3248222580, 3835390401, 4022224774, 264347078, 604807628, 770255983, 1249150122, 1555081692, 1996064986, 2554220882, 2821834349, 2952996808, 3210313671, 3336571891, 3584528711, 113926993, 338241895, 666307205, 773529912, 1294757372, 1396182291, 1695183700, 1986661051, 2177026350, 2456956037, 2730485921, 2820302411, 3259730800, 3345764771, 3516065817, 3600352804, 4094571909, 275423344, 430227734, 506948616, 659060556, 883997877, 958139571, 1322822218, 1537002063, 1747873779, 1955562222, 2024104815, 2227730452, 2361852424, 2428436474, 2756734187, 3204031479, 3329325298]
def sIV : List Int := [1779033703, 3144134277, 1013904242, 2773480762, 1359893119, 2600822924, 528734635, 1541459225]
end Go.Proofs.YtfkofbabeghgkaaGreat.Z
end

section
namespace Go.Proofs.YtfkofbabeghgkaaGreat.Z
attribute [local go_sem] max2_int min2_int max_two min_two max_three min_three max_four min_four   -- for this text's walks alone
def hash_tail.l0 : Nat → Int → List Int → Int → Option (ByteArray)
 | 0, _, _, _ => none
 | k + 1, x0, x4, x16 => if x16 < 8 then (if 0 ≤ (wrap64 (8 * x16)) then (if 0 ≤ (wrap64 ((wrap64 ((x4.length : Int) - 1)) - x16)) then (if (wrap64 ((wrap64 ((x4.length : Int) - 1)) - x16)) < (x4.length : Int) then (hash_tail.l0 k x0 (x4.set ((wrap64 ((wrap64 ((x4.length : Int) - 1)) - x16)) : Int).toNat ((shr .u64 (IntKind.u64.wrap ((IntKind.u64.wrap (x0)) * 8)) (wrap64 (8 * x16))) % 256)) (wrap64 (x16 + 1))) else (none)) else (none)) else (none)) else (some (strOfNums x4))
def hash_tail.f (k : Nat) (a0 : Int) : Option (ByteArray) := if 0 ≤ (wrap64 ((wrap64 (1 + (Int.tmod (wrap64 (119 - (Int.tmod a0 64))) 64))) + 8)) then (if (wrap64 ((wrap64 (1 + (Int.tmod (wrap64 (119 - (Int.tmod a0 64))) 64))) + 8) : Int).toNat ≤ 281474976710656 then ((some (List.replicate (wrap64 ((wrap64 (1 + (Int.tmod (wrap64 (119 - (Int.tmod a0 64))) 64))) + 8) : Int).toNat 0 : List Int)).bind fun y281 => (if 0 < (y281.length : Int) then (hash_tail.l0 k a0 (y281.set (0 : Int).toNat 128) 0) else (none))) else (none)) else (none)
theorem hash_tail.mono_l : ∀ k, (∀ y0 y1 y2, LeO (hash_tail.l0 k y0 y1 y2) (hash_tail.l0 (k + 1) y0 y1 y2))
 | 0 => fun _ _ _ r h => by simp [hash_tail.l0] at h
 | k + 1 => by
  have ih0 := hash_tail.mono_l k
  ·intro y0 y1 y2
   unfold hash_tail.l0
   repeat' first
   | (with_reducible exact ih0 _ _ _)
   | (with_reducible exact LeO.refl _)
   | (with_reducible exact LeO.none _)
   | (with_reducible refine LeO.ite ?_ ?_)
   | (with_reducible refine LeO.bind ?_ (fun _ => ?_))
   | exact ih0 _ _ _
   | exact LeO.none _
   | refine LeO.ite ?_ ?_
   | refine LeO.bind ?_ (fun _ => ?_)
theorem hash_tail.mono : ∀ a0 k, LeO (hash_tail.f k a0) (hash_tail.f (k + 1) a0) := by
 intro a0 k
 have ih0 := hash_tail.mono_l k
 unfold hash_tail.f
 repeat' first
   | (with_reducible exact ih0 _ _ _)
   | (with_reducible exact LeO.refl _)
   | (with_reducible exact LeO.none _)
   | (with_reducible refine LeO.ite ?_ ?_)
   | (with_reducible refine LeO.bind ?_ (fun _ => ?_))
   | exact ih0 _ _ _
   | exact LeO.none _
   | refine LeO.ite ?_ ?_
   | refine LeO.bind ?_ (fun _ => ?_)
set_option maxHeartbeats 8000000 in
set_option maxRecDepth 100000 in
theorem hash_tail.calls (k : Nat) (a0 : Int) (r : ByteArray) (w : World) (h : hash_tail.f k a0 = some r) :
  Calls Tryz.prog 75 #[.int .i64 a0] w fun e w' => e = .returned (.string r) ∧ Below w.heap.size w w' := by
 have HB := ak_ (Below.refl w.heap.size w)
 have H : (if 0 ≤ (wrap64 ((wrap64 (1 + (Int.tmod (wrap64 (119 - (Int.tmod a0 64))) 64))) + 8)) then (if (wrap64 ((wrap64 (1 + (Int.tmod (wrap64 (119 - (Int.tmod a0 64))) 64))) + 8) : Int).toNat ≤ 281474976710656 then ((some (List.replicate (wrap64 ((wrap64 (1 + (Int.tmod (wrap64 (119 - (Int.tmod a0 64))) 64))) + 8) : Int).toNat 0 : List Int)).bind fun y281 => (if 0 < (y281.length : Int) then (hash_tail.l0 k a0 (y281.set (0 : Int).toNat 128) 0) else (none))) else (none)) else (none)) = some r := h
 clear h
 obtain ⟨ji2, hji2⟩ : ∃ j_ : Int, (wrap64 ((wrap64 (1 + (Int.tmod (wrap64 (119 - (Int.tmod a0 64))) 64))) + 8)) = j_ := ⟨_, rfl⟩
 replace H : (if 0 ≤ (ji2) then (if (ji2 : Int).toNat ≤ 281474976710656 then ((some (List.replicate (ji2 : Int).toNat 0 : List Int)).bind fun y281 => (if 0 < (y281.length : Int) then (hash_tail.l0 k a0 (y281.set (0 : Int).toNat 128) 0) else (none))) else (none)) else (none)) = some r := by first | (rw [hji2] at H; exact H) | (simp only [hji2] at H ⊢; exact H)
 have hji2w : (IntKind.i64.wrap ((wrap64 (1 + (Int.tmod (wrap64 (119 - (Int.tmod a0 64))) 64))) + 8)) = ji2 := (i64_w _).trans hji2
 by_cases c3 : 0 ≤ (ji2)
 ·rw [if_pos c3] at H
  have c3b0 := eq_true c3
  have c3b1 : decide (0 ≤ (ji2)) = true := decide_eq_true c3
  clear c3
  by_cases c4 : (ji2 : Int).toNat ≤ 281474976710656
  ·rw [if_pos c4] at H
   have c4b0 := eq_true c4
   have c4b1 : decide ((ji2 : Int).toNat ≤ 281474976710656) = true := decide_eq_true c4
   (try simp only [Int.toNat_natCast] at c4b1)
   clear c4
   obtain ⟨y281, hy281⟩ : ∃ y_ : List Int, y_ = (List.replicate (ji2 : Int).toNat 0) := ⟨_, rfl⟩
   replace H : (if 0 < (y281.length : Int) then (hash_tail.l0 k a0 (y281.set (0 : Int).toNat 128) 0) else (none)) = some r := by first | (rw [hy281]; with_reducible exact H) | (have H2_ := (Option.bind_some _ _).symm.trans H; rw [hy281]; with_reducible exact H2_) | (have H2_ := (Option.bind_some _ _).symm.trans H; with_reducible exact H2_) | with_reducible exact H | (rw [hy281]; exact H) | exact H
   have Ny281 := ak_ hy281
   clear hy281
   by_cases c5 : 0 < (y281.length : Int)
   ·rw [if_pos c5] at H
    have c5b0 : decide (0 < (y281.length : Int)) = true := decide_eq_true c5
    have c5b1 : decide (0 < y281.length) = true := decide_eq_true (by omega)
    clear c5
    obtain ⟨y284, hy284⟩ : ∃ y_ : List Int, y_ = (y281.set (0 : Int).toNat 128) := ⟨_, rfl⟩
    replace H : (hash_tail.l0 k a0 y284 0) = some r := by first | (rw [hy284]; with_reducible exact H) | (have H2_ := (Option.bind_some _ _).symm.trans H; rw [hy284]; with_reducible exact H2_) | (have H2_ := (Option.bind_some _ _).symm.trans H; with_reducible exact H2_) | with_reducible exact H | (rw [hy284]; exact H) | exact H
    have Ny284 := ak_ hy284
    clear hy284
    have H' := ak_ H
    clear H
    go_enter Tryz.func75, Tryz.ntmps75
    go_wp2_with (first | ((with_reducible refine gate_dst (N := 13) rfl ?_); refine Kd.R_make (Kd.int .u8) _ 5 rfl (N := 13) rfl 35 _ _ rfl ji2 rfl rfl Tryz.underlying35 (.int .u8 0) 1 info5 rfl (by decide) (by omega) 0 (ok := fun _ => True) (okp := fun _ => True) rfl (fun _ hk => hk) trivial (of_decide_eq_true (by first | (with_reducible assumption) | assumption)) (Nat.le_trans (Nat.mul_le_mul_right _ (of_decide_eq_true (by first | (with_reducible assumption) | assumption) : ji2.toNat ≤ 281474976710656)) (by omega)) (Below.refl _ _) (Nat.le_refl _) ?_; intro v282 w7 ho8 hb hg_ hnew_; clear hg_ hnew_; (first | rw [← Ny281.out] at ho8 | (simp only [Int.reduceToNat] at ho8; rw [← Ny281.out] at ho8)); have HO283 := rl_ ho8; replace HB := hb_ hb; clear hb ho8; have p6 : 0 ≤ (0 : Int) := (by omega); have q6 : (0 : Int) < ((y281.length : Int) : Int) := of_decide_eq_true (by first | (with_reducible assumption) | assumption); have qi6 : (0 < y281.length) = True := eq_true (by omega); obtain ⟨go6, co6, eo6, gb6, gl6, cl6, HG6⟩ := Kd.R_form HO283.out (by omega); (first | cases eo6 | (injection eo6 with ea_ en_ ec_; (first | subst ea_ | (injection ea_ with ea_; subst ea_)); subst ec_; clear en_)); have GB6 := ak_ gb6; have GG6 := ak_ HG6; clear gb6 gl6 HG6; obtain ⟨hx6_0, hf6_0⟩ := Kd.R_celln 0 HO283.out (0 : Int) p6 q6; (try rw [show ((0 : Int)).toNat = 0 from rfl] at hx6_0); (try simp only [Nat.reduceMul, Nat.zero_mul, Nat.zero_add, Nat.reduceAdd] at hx6_0); (try rw [show ((0 : Int)).toNat = 0 from rfl] at hf6_0); (try simp only [Nat.reduceMul, Nat.zero_mul, Nat.zero_add, Nat.reduceAdd] at hf6_0); replace p6 := eq_true p6; replace q6 := eq_true q6; obtain ⟨hy9_, hz9_⟩ := Kd.R_celln 0 HO283.out (0 : Int) (by omega) (of_decide_eq_true (by first | (with_reducible assumption) | assumption)); (try simp only [Int.reduceToNat, Int.toNat_zero, Int.toNat_ofNat, Nat.reduceMul, Nat.zero_mul, Nat.zero_add] at hy9_ hz9_); (try rw [show ((0 : Int)).toNat = 0 from rfl] at hy9_); (try rw [show ((0 : Int)).toNat = 0 from rfl] at hz9_); have HP9 := Kd.R_putg HO283.out (0 : Int) 128) | ((with_reducible refine gate_store (t := 5) (p := 15) rfl ?_); refine store_event (t := 5) (p := 15) (v := ?vo_w10) (w1 := (w7.setCell ⟨go6, (0 : Int).toNat, none⟩ (.int .u8 128))) ?hg ?ho ?hn ?hr ?_; (case ho => rfl); (case hg => rfl); (case hn => rfl); (case hr => first | (go_simp; done) | (go_simp; rfl)); intro w10 hw; have hg : w7.grownBy w10 (some go6) := (by rw [hw]; exact HP9.2); have hp_ : Kd.R (Kd.int .u8) 5 w10 w.heap.size (fun _ => True) (.slice (some ⟨go6, 0, none⟩) y281.length co6) y284 := (by rw [hw, Ny284.out]; exact HP9.1); clear HP9; replace HO283 := ak_ (hp_); replace HB := ak_ ((by rw [hw]; exact below_set (HB.out) GB6.out : Below w.heap.size w w10)); clear hg hw hp_))
    go_loopg [16] k (fun kq v16 w' => ∃ (x4_1 : List Int) (x16_1 : Int), v16 = .int .i64 x16_1 ∧ Aside0 (hash_tail.l0 kq a0 x4_1 x16_1 = some r) ∧ Aside0 (kq ≤ k) ∧ Aside0 (Kd.R (Kd.int .u8) 5 w' w.heap.size (fun _ => True) (.slice (some ⟨go6, 0, none⟩) y281.length co6) x4_1) ∧ Aside0 (Below w.heap.size w w'))
    case atStart => exact ⟨(y284), (0), (by first | rfl | (simp; done) | (simp [*]; done)), H', ⟨Nat.le_refl _⟩, ⟨ra_ HO283⟩, ⟨bel_⟩⟩
    case round =>
     clear H'
     try clear p2
     try clear c3
     try clear c3b0
     try clear c3b1
     try clear c4
     try clear c4b0
     try clear c4b1
     try clear c5
     try clear c5b0
     try clear c5b1
     try clear p6
     try clear q6
     try clear hx6
     try clear qi6
     try clear hf6
     try clear c7
     try clear hx6_0
     try clear p6
     try clear q6
     obtain ⟨x4_1, x16_1, rfl, HA, HK1, HO_4, HB⟩ := hrel
     have hl4_1 := (Kd.R_reads' HO_4.out).1
     rw [hl4_1] at HO_4
     (try simp only [hl4_1])
     cases gk with
     | zero => exact absurd HA.out (by simp [hash_tail.l0])
     | succ k1 =>
      have H := HA.out
      clear HA
      simp only [hash_tail.l0] at H
      by_cases c11 : x16_1 < 8
      ·rw [if_pos c11] at H
       have c11b0 : decide (x16_1 < 8) = true := decide_eq_true c11
       clear c11
       obtain ⟨ji12, hji12⟩ : ∃ j_ : Int, (wrap64 (8 * x16_1)) = j_ := ⟨_, rfl⟩
       replace H : (if 0 ≤ (ji12) then (if 0 ≤ (wrap64 ((wrap64 ((x4_1.length : Int) - 1)) - x16_1)) then (if (wrap64 ((wrap64 ((x4_1.length : Int) - 1)) - x16_1)) < (x4_1.length : Int) then (hash_tail.l0 k1 a0 (x4_1.set ((wrap64 ((wrap64 ((x4_1.length : Int) - 1)) - x16_1)) : Int).toNat ((shr .u64 (IntKind.u64.wrap ((IntKind.u64.wrap (a0)) * 8)) (ji12)) % 256)) (wrap64 (x16_1 + 1))) else (none)) else (none)) else (none)) = some r := by first | (rw [hji12] at H; exact H) | (simp only [hji12] at H ⊢; exact H)
       have hji12w : (IntKind.i64.wrap (8 * x16_1)) = ji12 := (i64_w _).trans hji12
       by_cases c13 : 0 ≤ (ji12)
       ·rw [if_pos c13] at H
        have c13b0 := eq_true c13
        have c13b1 : decide (0 ≤ (ji12)) = true := decide_eq_true c13
        clear c13
        obtain ⟨ji14, hji14⟩ : ∃ j_ : Int, (shr .u64 (IntKind.u64.wrap ((IntKind.u64.wrap (a0)) * 8)) (ji12)) = j_ := ⟨_, rfl⟩
        replace H : (if 0 ≤ (wrap64 ((wrap64 ((x4_1.length : Int) - 1)) - x16_1)) then (if (wrap64 ((wrap64 ((x4_1.length : Int) - 1)) - x16_1)) < (x4_1.length : Int) then (hash_tail.l0 k1 a0 (x4_1.set ((wrap64 ((wrap64 ((x4_1.length : Int) - 1)) - x16_1)) : Int).toNat ((ji14) % 256)) (wrap64 (x16_1 + 1))) else (none)) else (none)) = some r := by first | (rw [hji14] at H; exact H) | (simp only [hji14] at H ⊢; exact H)
        have hji14_ : ((IntKind.u64.wrap ((IntKind.u64.wrap (a0)) * 8)) / 2 ^ min (ji12).toNat 64) = ji14 := hji14
        have hji14z : (ji12) ≤ 64 → ((IntKind.u64.wrap ((IntKind.u64.wrap (a0)) * 8)) / 2 ^ (ji12).toNat) = ji14 := shr_small hji14
        obtain ⟨ji15, hji15⟩ : ∃ j_ : Int, (wrap64 ((wrap64 ((x4_1.length : Int) - 1)) - x16_1)) = j_ := ⟨_, rfl⟩
        replace H : (if 0 ≤ (ji15) then (if (ji15) < (x4_1.length : Int) then (hash_tail.l0 k1 a0 (x4_1.set ((ji15) : Int).toNat ((ji14) % 256)) (wrap64 (x16_1 + 1))) else (none)) else (none)) = some r := by first | (rw [hji15] at H; exact H) | (simp only [hji15] at H ⊢; exact H)
        have hji15w : (IntKind.i64.wrap ((wrap64 ((x4_1.length : Int) - 1)) - x16_1)) = ji15 := (i64_w _).trans hji15
        by_cases c16 : 0 ≤ (ji15)
        ·rw [if_pos c16] at H
         have c16b0 : decide (0 ≤ (ji15)) = true := decide_eq_true c16
         clear c16
         by_cases c17 : (ji15) < (x4_1.length : Int)
         ·rw [if_pos c17] at H
          have c17b0 : decide ((ji15) < (x4_1.length : Int)) = true := decide_eq_true c17
          try (have c17b0y := c17b0; simp only [hl4_1] at c17b0y)
          clear c17
          obtain ⟨y285, hy285⟩ : ∃ y_ : List Int, y_ = (x4_1.set ((ji15) : Int).toNat ((ji14) % 256)) := ⟨_, rfl⟩
          replace H : (hash_tail.l0 k1 a0 y285 (wrap64 (x16_1 + 1))) = some r := by first | (rw [hy285]; with_reducible exact H) | (have H2_ := (Option.bind_some _ _).symm.trans H; rw [hy285]; with_reducible exact H2_) | (have H2_ := (Option.bind_some _ _).symm.trans H; with_reducible exact H2_) | with_reducible exact H | (rw [hy285]; exact H) | exact H
          have Ny285 := ak_ hy285
          clear hy285
          have H' := ak_ H
          clear H
          have p18 : 0 ≤ ((ji15) : Int) := of_decide_eq_true (by first | (with_reducible assumption) | assumption)
          have q18 : ((ji15) : Int) < ((x4_1.length : Int) : Int) := of_decide_eq_true (by first | (with_reducible assumption) | assumption)
          obtain ⟨hx18_0, hf18_0⟩ := Kd.R_celln 0 HO_4.out ((ji15) : Int) p18 q18
          replace p18 := eq_true p18
          replace q18 := eq_true q18
          have HP19 := Kd.R_putg HO_4.out ((ji15) : Int) ((ji14) % 256)
          go_wp2_with (first | ((with_reducible refine gate_store (t := 5) (p := 32) rfl ?_); refine store_event (t := 5) (p := 32) (v := ?vo_w20) (w1 := (wr.setCell ⟨go6, ((ji15) : Int).toNat, none⟩ (.int .u8 ((ji14) % 256)))) ?hg ?ho ?hn ?hr ?_; (case ho => rfl); (case hg => rfl); (case hn => rfl); (case hr => first | (go_simp; done) | (go_simp; rfl)); intro w20 hw; have hg : wr.grownBy w20 (some go6) := (by rw [hw]; exact HP19.2); have hp_ : Kd.R (Kd.int .u8) 5 w20 w.heap.size (fun _ => True) (.slice (some ⟨go6, 0, none⟩) x4_1.length co6) y285 := (by rw [hw, Ny285.out]; exact HP19.1); clear HP19; replace HO_4 := ak_ (hp_); replace HB := ak_ ((by rw [hw]; exact below_set (HB.out) GB6.out : Below w.heap.size w w20)); clear hg hw hp_))
          (try simp only [← hl4_1])
          go_roundg k1
          case measure => have := HK1.out; omega
          case rel => exact ⟨(y285), (wrap64 (x16_1 + 1)), (by first | rfl | (simp; done) | (simp [*]; done)), H', ⟨by have := HK1.out; omega⟩, ⟨by (try simp only [hl4_1]); (with_reducible repeat (first | apply Kd.R_alloc | apply Kd.R_drewN | apply Kd.R_drew)); exact HO_4.out⟩, ⟨bel_⟩⟩
         rw [if_neg c17] at H
         exact absurd H (by simp)
        rw [if_neg c16] at H
        exact absurd H (by simp)
       rw [if_neg c13] at H
       exact absurd H (by simp)
      rw [if_neg c11] at H
      have c11b0 : decide (x16_1 < 8) = false := decide_eq_false c11
      clear c11
      obtain rfl := Option.some.inj H
      have hcv21 := own_string (P := Tryz.prog) Tryz.underlying35 Tryz.underlying5 Tryz.underlying9 (Kd.own_of_R HO_4.out)
      go_wp2
      go_ret
      exact ⟨by first | rfl | (simp [errW_none, errW_some] <;> rfl) | (simp only [← hji2]; first | rfl | (simp [errW_none, errW_some] <;> rfl)) | (simp [*, errW_none, errW_some] <;> rfl), bel_⟩
   rw [if_neg c5] at H
   exact absurd H (by simp)
  rw [if_neg c4] at H
  exact absurd H (by simp)
 rw [if_neg c3] at H
 exact absurd H (by simp)
end Go.Proofs.YtfkofbabeghgkaaGreat.Z
end

section
namespace Go.Proofs.YtfkofbabeghgkaaGreat.Z
set_option maxRecDepth 100000 in
set_option maxHeartbeats 3200000 in
theorem rounds_calls (w : World) : Calls Tryz.prog 73 #[] w fun e w' => ∃ g, e = .returned (.pointer (some ⟨g, 0, none⟩)) ∧ w.heap.size ≤ g ∧ w'.heap[g]? = some (ws 170 sK) ∧ Below w.heap.size w w' := by
  go_enter Tryz.func73, Tryz.ntmps73
  go_wp2_with ((with_reducible refine gate_dst (N := 2) rfl ?_); refine box_event ?hg (N := 2) ?hd (cs := (sK.map (fun x => Value.int .u32 x)).toArray) (t := 170) ?hr ?_; (case hd => rfl); (case hg => rfl); (case hr => first | (go_simp; done) | (go_simp; rfl)); intro g hg w1 hx hb; have BX := ak_ (show w1.heap[g]? = some (ws 170 sK) from hx); have BB := ak_ hb; have GG := ak_ (show w.heap.size ≤ g by omega); clear hx hb hg)
  go_ret
  exact ⟨g, rfl, GG.out, BX.out, BB.out⟩
def bs (t : TypeId) (l : List Int) : Obj := .cells (l.map (fun x => Value.int .u8 x)).toArray t (0, 0)
theorem bs_cell {w : World} {g : Nat} {t : TypeId} {l : List Int} (h : w.heap[g]? = some (bs t l)) (i : Int) (h0 : 0 ≤ i) (hi : i < l.length) : ∃ v, w.cell? ⟨g, i.toNat, none⟩ = some v := by
  rw [blk_cell h, List.getElem?_toArray, List.getElem?_map, List.getElem?_eq_getElem (show i.toNat < l.length by omega)]
  exact ⟨_, rfl⟩
theorem bs_set {w : World} {g : Nat} {t : TypeId} {l : List Int} (h : w.heap[g]? = some (bs t l)) (i : Nat) (x : Int) : (w.setCell ⟨g, i, none⟩ (.int .u8 x)).heap[g]? = some (bs t (l.set i x)) := by
  rw [blk_set h]
  congr 2
  simp [bs]
theorem bs_info {p : Option Nat} {n : Nat} {l : List Int} (h : p = some n) (hl : l.length = n) : p = some (l.map (fun x => Value.int .u8 x)).toArray.size := by
  rw [h]
  simp [hl]
theorem bs_one (l : List Int) : ((l.map (fun x => Value.int .u8 x)).toArray).all (·.oneCell') = true := by
  simp [Value.oneCell']
def takeF (B : ByteArray) (h : List Int) : List Int := addF (rounds sK (wordsF (B.extract 0 64)) 64 0 ⟨rd h 0, rd h 1, rd h 2, rd h 3, rd h 4, rd h 5, rd h 6, rd h 7⟩).list 8 0 h
def blocksF : Nat → ByteArray → List Int → Option (List Int)
  | 0, _, _ => none
  | k + 1, B, h => if B.toList.isEmpty = true then some h else if (64 : Int) ≤ (B.size : Int) then blocksF k (B.extract 64 B.size) (takeF B h) else none
theorem blocksF.mono : ∀ (k : Nat) (B : ByteArray) (h : List Int), LeO (blocksF k B h) (blocksF (k + 1) B h)
  | 0, _, _ => fun r h => by simp [blocksF] at h
  | k + 1, B, h => by
    unfold blocksF
    exact LeO.ite (LeO.refl _) (LeO.ite (blocksF.mono k _ _) (LeO.refl _))
def outV (h : List Int) (y : Int) : Int := IntKind.u8.wrap (shr .u32 (rd h (y / 4)) (24 - 8 * (y % 4)))
def outF (h : List Int) : List Int := (List.range 32).map (fun i : Nat => outV h (i : Int))
def hash_Sum.f (k : Nat) (s : ByteArray) : Option (List Int) := (hash_tail.f k (s.size : Int)).bind fun t => if s.size + t.size ≤ 9223372036854775807 then (blocksF k (s ++ t) sIV).bind fun h => some (outF h) else none
theorem hash_Sum.mono : ∀ a0 k, LeO (hash_Sum.f k a0) (hash_Sum.f (k + 1) a0) := fun a0 k => by
  unfold hash_Sum.f
  exact LeO.bind (hash_tail.mono _ _) (fun _ => LeO.ite (LeO.bind (blocksF.mono _ _ _) (fun _ => LeO.refl _)) (LeO.refl _))
theorem outF_len (h : List Int) : (outF h).length = 32 := by simp [outF]
theorem addF_len (v : List Int) : ∀ (n : Nat) (x : Int) (l : List Int), (addF v n x l).length = l.length
  | 0, _, _ => rfl
  | n + 1, x, l => by rw [addF, addF_len, List.length_set]
theorem takeF_len (B : ByteArray) (h : List Int) : (takeF B h).length = h.length := addF_len _ _ _ _
theorem list8 {l : List Int} (h : l.length = 8) : ∃ a0 a1 a2 a3 a4 a5 a6 a7, l = [a0, a1, a2, a3, a4, a5, a6, a7] := by
  match l, h with
  | [a0, a1, a2, a3, a4, a5, a6, a7], _ => exact ⟨a0, a1, a2, a3, a4, a5, a6, a7, rfl⟩
theorem empty_size {B : ByteArray} (h : B.toList.isEmpty = true) : B.size = 0 := by
  rw [ByteArray.toList_eq, List.isEmpty_iff] at h
  have := congrArg List.length h
  rw [Array.length_toList] at this
  exact this
theorem outF_eq {hh l : List Int} (hl : l.length = 32) (h : ∀ i : Nat, i < 32 → l[i]? = some (outV hh (i : Int))) : l = outF hh := by
  refine List.ext_getElem? (fun i => ?_)
  rcases Nat.lt_or_ge i 32 with hi | hi
  · rw [h i hi]
    unfold outF
    rw [List.getElem?_map, List.getElem?_range hi]; rfl
  · rw [List.getElem?_eq_none (by omega), List.getElem?_eq_none (by rw [outF_len]; omega)]
set_option maxRecDepth 100000 in
set_option maxHeartbeats 6400000 in
theorem hash_Sum.calls (k : Nat) (s : ByteArray) (r : List Int) (w : World) (h : hash_Sum.f k s = some r) :
    Calls Tryz.prog 41 #[.string s] w fun e w' => e = .returned (.agg (r.map (fun x => Value.int .u8 x)).toArray) ∧ Below w.heap.size w w' := by
  unfold hash_Sum.f at h
  obtain ⟨t, ht, h⟩ := Option.bind_eq_some_iff.mp h
  by_cases hcat : s.size + t.size ≤ 9223372036854775807
  rotate_left
  · rw [if_neg hcat] at h; cases h
  rw [if_pos hcat] at h
  obtain ⟨hh, hbk, h⟩ := Option.bind_eq_some_iff.mp h
  have hct : (9223372036854775807 < s.size + t.size) = False := eq_false (by omega)
  obtain rfl := Option.some.inj h
  have HTL := ak_ ht
  have HBK := ak_ hbk
  clear h ht hbk hcat
  go_enter Tryz.func41, Tryz.ntmps41
  go_wp2_with (first
    | ((with_reducible refine gate_dst (N := 2) rfl ?_); refine box_event ?hg (N := 2) ?hd (cs := ((List.replicate 32 (0 : Int)).map (fun x => Value.int .u8 x)).toArray) (t := 28) ?hr ?_; (case hd => rfl); (case hg => rfl); (case hr => first | (go_simp; done) | (go_simp; rfl)); intro go hgo w1 hx hb; have O1 := ak_ (show w1.heap[go]? = some (bs 28 (List.replicate 32 0)) from hx); have B1 := ak_ hb; have GO := ak_ (show w.heap.size ≤ go by omega); clear hx hb hgo)
    | ((with_reducible refine gate_dst (N := 3) rfl ?_); refine box_event ?hg (N := 3) ?hd (cs := ((List.replicate 8 (0 : Int)).map (fun x => Value.int .u32 x)).toArray) (t := 128) ?hr ?_; (case hd => rfl); (case hg => rfl); (case hr => first | (go_simp; done) | (go_simp; rfl)); intro gh hgh w2 hx hb; have I2 := ak_ (show w2.heap[gh]? = some (ws 128 (List.replicate 8 0)) from hx); have O2 := ak_ (blk_below O1.out hb); have B2 := ak_ (below_step B1.out hb); have GH := ak_ (show w.heap.size ≤ gh ∧ go ≠ gh from ⟨by have := B1.out.size; omega, by rw [hgh]; exact Nat.ne_of_lt (blk_lt O1.out)⟩);  have q0 : w2.cell? ⟨gh, 0, none⟩ = some (.int .u32 0) := (blk_cell I2.out 0).trans rfl; have f0 : w2.frozen? ⟨gh, 0, none⟩ = false := blk_frozen I2.out 0; have q1 : w2.cell? ⟨gh, 1, none⟩ = some (.int .u32 0) := (blk_cell I2.out 1).trans rfl; have f1 : w2.frozen? ⟨gh, 1, none⟩ = false := blk_frozen I2.out 1; have q2 : w2.cell? ⟨gh, 2, none⟩ = some (.int .u32 0) := (blk_cell I2.out 2).trans rfl; have f2 : w2.frozen? ⟨gh, 2, none⟩ = false := blk_frozen I2.out 2; have q3 : w2.cell? ⟨gh, 3, none⟩ = some (.int .u32 0) := (blk_cell I2.out 3).trans rfl; have f3 : w2.frozen? ⟨gh, 3, none⟩ = false := blk_frozen I2.out 3; have q4 : w2.cell? ⟨gh, 4, none⟩ = some (.int .u32 0) := (blk_cell I2.out 4).trans rfl; have f4 : w2.frozen? ⟨gh, 4, none⟩ = false := blk_frozen I2.out 4; have q5 : w2.cell? ⟨gh, 5, none⟩ = some (.int .u32 0) := (blk_cell I2.out 5).trans rfl; have f5 : w2.frozen? ⟨gh, 5, none⟩ = false := blk_frozen I2.out 5; have q6 : w2.cell? ⟨gh, 6, none⟩ = some (.int .u32 0) := (blk_cell I2.out 6).trans rfl; have f6 : w2.frozen? ⟨gh, 6, none⟩ = false := blk_frozen I2.out 6; have q7 : w2.cell? ⟨gh, 7, none⟩ = some (.int .u32 0) := (blk_cell I2.out 7).trans rfl; have f7 : w2.frozen? ⟨gh, 7, none⟩ = false := blk_frozen I2.out 7; have S8 := ak_ (show Step gh w2 ((((((((w2.setCell ⟨gh, 0, none⟩ (.int .u32 1779033703)).setCell ⟨gh, 1, none⟩ (.int .u32 3144134277)).setCell ⟨gh, 2, none⟩ (.int .u32 1013904242)).setCell ⟨gh, 3, none⟩ (.int .u32 2773480762)).setCell ⟨gh, 4, none⟩ (.int .u32 1359893119)).setCell ⟨gh, 5, none⟩ (.int .u32 2600822924)).setCell ⟨gh, 6, none⟩ (.int .u32 528734635)).setCell ⟨gh, 7, none⟩ (.int .u32 1541459225)) (ws 128 sIV) from (((((((((Step.refl I2.out).ws 0 1779033703).ws 1 3144134277).ws 2 1013904242).ws 3 2773480762).ws 4 1359893119).ws 5 2600822924).ws 6 528734635).ws 7 1541459225)); clear hx hb hgh)
    | (go_at_call 73; have S8' := S8.out; clear S8 q0 q1 q2 q3 q4 q5 q6 q7 f0 f1 f2 f3 f4 f5 f6 f7; obtain ⟨w3, hw3⟩ : ∃ w3, w3 = ((((((((w2.setCell ⟨gh, 0, none⟩ (.int .u32 1779033703)).setCell ⟨gh, 1, none⟩ (.int .u32 3144134277)).setCell ⟨gh, 2, none⟩ (.int .u32 1013904242)).setCell ⟨gh, 3, none⟩ (.int .u32 2773480762)).setCell ⟨gh, 4, none⟩ (.int .u32 1359893119)).setCell ⟨gh, 5, none⟩ (.int .u32 2600822924)).setCell ⟨gh, 6, none⟩ (.int .u32 528734635)).setCell ⟨gh, 7, none⟩ (.int .u32 1541459225)) := ⟨_, rfl⟩; rw [← hw3] at S8' ⊢; have I3 := ak_ S8'.1; have O3 := ak_ ((S8'.2.1.2 go (blk_lt O2.out) GH.out.2 (by simp)).trans O2.out); have B3 := ak_ (B2.out.trans (S8'.2.2 _ GH.out.1)); clear hw3 S8'; refine (rounds_calls _).mono ?_; rintro e w4 ⟨gk, rfl, hgk, hk, hb⟩; have I4 := ak_ (blk_below I3.out hb); have O4 := ak_ (blk_below O3.out hb); have K4 := ak_ hk; have B4 := ak_ (below_step B3.out hb); clear hk hb hgk)
    | (go_at_call 75; refine (hash_tail.calls k _ t _ HTL.out).mono ?_; rintro e w5 ⟨rfl, hb⟩; have I5 := ak_ (blk_below I4.out hb); have O5 := ak_ (blk_below O4.out hb); have K5 := ak_ (blk_below K4.out hb); have B5 := ak_ (below_step B4.out hb); clear hb))
  obtain ⟨w6, hw6⟩ : ∃ w6, w6 = w5 := ⟨_, rfl⟩
  go_loopw [0] (fun sv wr => ∃ (B : ByteArray) (hv : List Int) (kq : Nat), sv = .string B ∧ Aside0 (Below w.heap.size w wr ∧ wr.heap[go]? = some (bs 28 (List.replicate 32 0)) ∧ wr.heap[gk]? = some (ws 170 sK) ∧ wr.heap[gh]? = some (ws 128 hv)) ∧ Aside0 (hv.length = 8) ∧ Aside0 (blocksF kq B hv = some hh)) (fun sv _ => match sv with | .string b => b.size | _ => 0)
  case atStart => exact ⟨_, _, k, rfl, ⟨B5.out, O5.out, K5.out, I5.out⟩, ⟨rfl⟩, HBK⟩
  case round =>
    obtain ⟨B, hv, kq, rfl, HS, HV8, HF⟩ := hrel
    obtain ⟨hB, hO, hK, hc⟩ := HS.out
    cases kq with
    | zero => exact absurd HF.out (by simp [blocksF])
    | succ q =>
    by_cases hem : B.toList.isEmpty = true
    rotate_left
    · have hsz : B.toList.isEmpty = false := (Bool.not_eq_true _).mp hem
      have hF := HF.out
      rw [blocksF, if_neg hem] at hF
      by_cases h64 : (64 : Int) ≤ (B.size : Int)
      rotate_left
      · rw [if_neg h64] at hF; cases hF
      rw [if_pos h64] at hF
      have HF' := ak_ hF
      have hs0 : ((64 : Int) ≤ (B.size : Int)) = True := eq_true h64
      have H64 := ak_ h64
      have HE := ak_ (show (B.extract 0 64).size = 64 by rw [ByteArray.size_extract]; omega)
      have HE2 := ak_ (show (B.extract 64 B.size).size < B.size by rw [ByteArray.size_extract]; omega)
      obtain ⟨a0, a1, a2, a3, a4, a5, a6, a7, rfl⟩ := list8 HV8.out
      have NK := ak_ (show gk ≠ gh ∧ go ≠ gh from ⟨by
        intro e
        rw [e] at hK
        have := hK.symm.trans hc
        simp [ws] at this, GH.out.2⟩)
      have CC := ak_ hc
      clear hB hO hK hc hF hem h64 HF
      go_wp2_with (go_at_call 74; refine (take_calls (B.extract 0 64) HE.out gh gk sK rfl _ _ _ _ _ _ _ _ wr CC.out HS.out.2.2.1).mono ?_; rintro e w7 ⟨rfl, h7⟩; have S7 := ak_ h7; clear h7)
      have hs := HS.out
      have nk := NK.out
      have s7 := S7.out
      have he2 := HE2.out
      go_roundw
      case rel => exact ⟨_, takeF B [a0, a1, a2, a3, a4, a5, a6, a7], q, rfl, ⟨hs.1.trans (s7.2.2 _ GH.out.1), (s7.2.1.2 go (blk_lt hs.2.1) nk.2 (by simp)).trans hs.2.1, (s7.2.1.2 gk (blk_lt hs.2.2.1) nk.1 (by simp)).trans hs.2.2.1, s7.1⟩, ⟨takeF_len _ _⟩, HF'⟩
      case measure =>
        show (B.extract 64 B.size).size < B.size
        exact he2
    · have hsz : B.toList.isEmpty = true := hem
      have hF := HF.out
      rw [blocksF, if_pos hem] at hF
      obtain rfl := Option.some.inj hF
      have HR := ak_ (And.intro hB (And.intro hO hc))
      clear hB hO hK hc HS hF hem HF
      go_wp2
      go_loopw [23] (fun i wr => ∃ (y : Int) (l : List Int), i = .int .i64 y ∧ Aside0 (0 ≤ y ∧ y ≤ 32) ∧ Aside0 (Below w.heap.size w wr ∧ wr.heap[go]? = some (bs 28 l) ∧ wr.heap[gh]? = some (ws 128 hv) ∧ l.length = 32) ∧ Aside0 (∀ i : Nat, (i : Int) < y → l[i]? = some (outV hv (i : Int)))) (fun i _ => 32 - (intOf i).toNat)
      case atStart => exact ⟨0, _, rfl, ⟨by omega⟩, ⟨HR.out.1, HR.out.2.1, HR.out.2.2, by simp⟩, ⟨fun h => by omega⟩⟩
      case round =>
        obtain ⟨y, l, rfl, HY, HT, HG⟩ := hrel
        obtain ⟨hy0, hy1⟩ := HY.out
        have hll := HT.out.2.2.2
        by_cases hly : y < 32
        · have hly2 : decide (y < 32) = true := decide_eq_true hly
          have q0 : ((0 : Int) ≤ y) = True := eq_true hy0
          have q1 : (y < (32 : Int)) = True := eq_true hly
          obtain ⟨j, hj⟩ : ∃ j, j = Int.tdiv y 4 := ⟨_, rfl⟩
          have hj4 : j = y / 4 := by rw [hj, Int.tdiv_eq_ediv_of_nonneg hy0]
          have p0 : ((0 : Int) ≤ j) = True := eq_true (by omega)
          have p1 : (j < (8 : Int)) = True := eq_true (by omega)
          have ej : Int.tdiv y 4 = j := hj.symm
          have ej2 : IntKind.i64.wrap j = j := by rw [IntKind.wrap_i64]; omega
          have hmr : Int.tmod y 4 = y % 4 := Int.tmod_eq_emod_of_nonneg hy0
          obtain ⟨m0, hm0⟩ : ∃ m0, m0 = Int.tmod y 4 := ⟨_, rfl⟩
          have em0 : Int.tmod y 4 = m0 := hm0.symm
          obtain ⟨m1, hm1⟩ : ∃ m1, m1 = 8 * m0 := ⟨_, rfl⟩
          have em1 : IntKind.i64.wrap (8 * m0) = m1 := by rw [IntKind.wrap_i64]; omega
          obtain ⟨m2, hm2⟩ : ∃ m2, m2 = 24 - m1 := ⟨_, rfl⟩
          have em2 : IntKind.i64.wrap (24 - m1) = m2 := by rw [IntKind.wrap_i64]; omega
          have p2 : ((0 : Int) ≤ m2) = True := eq_true (by omega)
          have Y0 := ak_ (show j = y / 4 ∧ m2 = 24 - 8 * (y % 4) from ⟨hj4, by rw [hm2, hm1, hm0, hmr]⟩)
          have k0 := ws_at HT.out.2.2.1 j (by omega) (by rw [HV8.out]; omega)
          have z0 : wr.frozen? ⟨go, y.toNat, none⟩ = false := blk_frozen HT.out.2.1 _
          obtain ⟨c0, k1⟩ := bs_cell HT.out.2.1 y hy0 (by omega)
          have LY := ak_ hly
          have ew : wrap64 (y + 1) = y + 1 := by unfold wrap64; omega
          have EW := ak_ ew
          clear hy0 hy1 hly hj hj4 hmr hm0 hm1 hm2 ew hll
          go_wp2
          have hl := LY.out
          have hy := HY.out
          go_roundw
          case rel =>
            refine ⟨y + 1, _, by rw [EW.out], ⟨by omega⟩, ⟨HT.out.1.setCell (p := ⟨go, y.toNat, none⟩) GO.out _, bs_set HT.out.2.1 _ _, (Below.heap_setCell wr ⟨go, y.toNat, none⟩ _ gh (fun e => GH.out.2 e.symm)).trans HT.out.2.2.1, by rw [List.length_set]; exact HT.out.2.2.2⟩, ⟨fun i hi => ?_⟩⟩
            have hy2 := HY.out
            by_cases h0 : (i : Int) = y
            · have hyi : y.toNat = i := by omega
              rw [hyi, List.getElem?_set_self (by rw [HT.out.2.2.2]; omega), Y0.out.1, Y0.out.2, h0]
              rfl
            · rw [List.getElem?_set_ne (by omega)]
              exact HG.out i (by omega)
          case measure =>
            simp [EW.out, intOf]
            omega
        · have hge : decide (y < 32) = false := decide_eq_false hly
          have HG' := ak_ (outF_eq (hh := hv) hll (fun i hi => HG.out i (by omega)))
          have HI := ak_ (bs_info (l := l) (by kernel_rfl : (Tryz.prog.info? 28).map (·.size) = some 32) hll)
          clear hy0 hy1 hly hll
          go_wp2_with (first
            | ((with_reducible refine gate_dst (N := 39) rfl ?_); refine wpList_load_row rfl 28 _ rfl go rfl 28 _ (0, 0) _ HT.out.2.1 Tryz.underlying28 rfl HI.out ?_)
            | (refine wpList_store_row rfl 28 _ _ rfl go _ rfl rfl 28 _ HT.out.2.1 HI.out rfl (bs_one l) ?_))
          (try simp only [Exit.inBlock, Exit.then])
          refine bodyPost_ret (results_cell_row rfl _ _ go 28 _ (0, 0) _ rfl (setRow_heap _ go _ _ 28 (0, 0) HT.out.2.1) Tryz.underlying28 rfl HI.out) rfl ?_
          exact ⟨by rw [← HG'.out], below_setRow HT.out.1 GO.out _⟩
end Go.Proofs.YtfkofbabeghgkaaGreat.Z
end

section
namespace Go.Proofs.YtfkofbabeghgkaaGreat.Z
theorem Ev.val {α : Type} {g : Nat → Option α} {a b : α} (h : Ev g a) (e : a = b) : Ev g b := e ▸ h
theorem Ev.const {α : Type} {x : Option α} {r : α} (h : x = some r) : Ev (fun _ => x) r := ⟨0, fun _ _ => h⟩
theorem Ev.ifp {α : Type} {c : Prop} [Decidable c] {f g : Nat → Option α} {r : α} (hc : c) (h : Ev f r) : Ev (fun k => if c then f k else g k) r := Ev.congr (fun k => if_pos hc) h
theorem Ev.ifn {α : Type} {c : Prop} [Decidable c] {f g : Nat → Option α} {r : α} (hc : ¬ c) (h : Ev g r) : Ev (fun k => if c then f k else g k) r := Ev.congr (fun k => if_neg hc) h
theorem Ev.ite {α : Type} {c : Prop} [Decidable c] {f g : Nat → Option α} {r : α} (h : c → Ev f r) (h2 : ¬ c → Ev g r) : Ev (fun k => if c then f k else g k) r := by
  by_cases hc : c
  · exact Ev.ifp hc (h hc)
  · exact Ev.ifn hc (h2 hc)
theorem Ev.bindc {α β : Type} {x : Option α} {f : Nat → α → Option β} {a : α} {r : β} (h : x = some a) (k : Ev (fun n => f n a) r) : Ev (fun n => x.bind (f n)) r := Ev.bind (Ev.const h) k
theorem Ev.both {α : Type} {g : Nat → Option α} {a b : α} (h : Ev g a) (h2 : Ev g b) : a = b := by
  obtain ⟨K, h⟩ := h
  obtain ⟨K2, h2⟩ := h2
  have e1 := h (max K K2) (by omega)
  have e2 := h2 (max K K2) (by omega)
  rw [e1] at e2
  exact Option.some.inj e2
theorem w64 {i : Int} (h0 : -9223372036854775808 ≤ i) (h1 : i ≤ 9223372036854775807) : wrap64 i = i := by unfold wrap64; omega
theorem bytes_inj {a b : ByteArray} (h : a.toList = b.toList) : a = b := by
  rw [ByteArray.toList_eq, ByteArray.toList_eq] at h
  cases a; cases b; simp_all
end Go.Proofs.YtfkofbabeghgkaaGreat.Z
end

section
namespace Go.Proofs.YtfkofbabeghgkaaGreat.Z
theorem strOfNums_size (l : List Int) : (strOfNums l).size = l.length := by
  simp [strOfNums, ByteArray.size]
theorem tail_l0 (n : Int) : ∀ (d i : Nat) (L : List Int), 8 = i + d → 9 ≤ L.length → L.length ≤ 100 → ∃ t, Ev (fun k => hash_tail.l0 k n L (i : Int)) t ∧ t.size = L.length := by
  intro d
  induction d with
  | zero =>
    intro i L hi _ _
    exact ⟨strOfNums L, Ev.step (fun k => by rw [hash_tail.l0]) (Ev.ifn (by omega) (Ev.const rfl)), strOfNums_size L⟩
  | succ d ih =>
    intro i L hi h9 h100
    obtain ⟨t, ht, hs⟩ := ih (i + 1) (L.set ((wrap64 ((wrap64 ((L.length : Int) - 1)) - (i : Int))) : Int).toNat ((shr .u64 (IntKind.u64.wrap ((IntKind.u64.wrap n) * 8)) (wrap64 (8 * (i : Int)))) % 256)) (by omega) (by rw [List.length_set]; exact h9) (by rw [List.length_set]; exact h100)
    rw [List.length_set] at hs
    refine ⟨t, Ev.step (fun k => by rw [hash_tail.l0]) ?_, hs⟩
    have e1 : wrap64 ((i : Int) + 1) = ((i + 1 : Nat) : Int) := by rw [w64 (by omega) (by omega)]; omega
    have e2 : wrap64 (8 * (i : Int)) = 8 * (i : Int) := w64 (by omega) (by omega)
    have e3 : wrap64 ((wrap64 ((L.length : Int) - 1)) - (i : Int)) = (L.length : Int) - 1 - (i : Int) := by rw [w64 (i := (L.length : Int) - 1) (by omega) (by omega), w64 (by omega) (by omega)]
    refine Ev.ifp (by omega) (Ev.ifp (by rw [e2]; omega) (Ev.ifp (by rw [e3]; omega) (Ev.ifp (by rw [e3]; omega) ?_)))
    rw [e1]
    exact ht
theorem tail_ev (n : Nat) (hn : n ≤ 4611686018427387904) : ∃ t, Ev (fun k => hash_tail.f k (n : Int)) t ∧ (n + t.size) % 64 = 0 ∧ t.size ≤ 72 := by
  have e0 : Int.tmod (n : Int) 64 = ((n % 64 : Nat) : Int) := by rw [Int.tmod_eq_emod_of_nonneg (by omega)]; omega
  have e1 : wrap64 (119 - ((n % 64 : Nat) : Int)) = ((119 - n % 64 : Nat) : Int) := by rw [w64 (by omega) (by omega)]; omega
  have e2 : Int.tmod ((119 - n % 64 : Nat) : Int) 64 = (((119 - n % 64) % 64 : Nat) : Int) := by rw [Int.tmod_eq_emod_of_nonneg (by omega)]; omega
  have e3 : wrap64 (1 + (((119 - n % 64) % 64 : Nat) : Int)) = 1 + (((119 - n % 64) % 64 : Nat) : Int) := w64 (by omega) (by omega)
  have e4 : wrap64 (1 + (((119 - n % 64) % 64 : Nat) : Int) + 8) = ((9 + (119 - n % 64) % 64 : Nat) : Int) := by rw [w64 (by omega) (by omega)]; omega
  obtain ⟨t, ht, hs⟩ := tail_l0 (n : Int) 8 0 ((List.replicate (9 + (119 - n % 64) % 64) (0 : Int)).set (0 : Int).toNat 128) (by omega) (by rw [List.length_set, List.length_replicate]; omega) (by rw [List.length_set, List.length_replicate]; omega)
  rw [List.length_set, List.length_replicate] at hs
  refine ⟨t, ?_, by omega, by omega⟩
  unfold hash_tail.f
  rw [e0, e1, e2, e3, e4]
  refine Ev.ifp (by omega) (Ev.ifp (by rw [Int.toNat_natCast]; omega) ?_)
  rw [Int.toNat_natCast]
  refine Ev.bindc rfl (Ev.ifp (by rw [List.length_replicate]; omega) ?_)
  exact ht
theorem blocks_ev : ∀ (d : Nat) (B : ByteArray) (h : List Int), B.size = 64 * d → h.length = 8 → ∃ r, Ev (fun k => blocksF k B h) r ∧ r.length = 8
  | 0, B, h, hB, hh => ⟨h, Ev.step (fun k => by rw [blocksF]) (Ev.ifp (by
      rw [ByteArray.toList_eq, List.isEmpty_iff]
      refine List.length_eq_zero_iff.1 ?_
      rw [Array.length_toList]; exact hB) (Ev.const rfl)), hh⟩
  | d + 1, B, h, hB, hh => by
    obtain ⟨r, hr, hl⟩ := blocks_ev d (B.extract 64 B.size) (takeF B h) (by rw [ByteArray.size_extract]; omega) (by rw [takeF_len]; exact hh)
    refine ⟨r, Ev.step (fun k => by rw [blocksF]) (Ev.ifn (fun he => ?_) (Ev.ifp (by omega) hr)), hl⟩
    have := empty_size he
    omega
theorem hash_ev (s : ByteArray) (hs : s.size ≤ 4611686018427387904) : ∃ r, Ev (fun k => hash_Sum.f k s) r ∧ r.length = 32 := by
  obtain ⟨t, ht, h64, h72⟩ := tail_ev s.size hs
  obtain ⟨r, hr, hl⟩ := blocks_ev ((s.size + t.size) / 64) (s ++ t) sIV (by rw [ByteArray.size_append]; omega) rfl
  refine ⟨outF r, ?_, outF_len r⟩
  unfold hash_Sum.f
  exact Ev.bind ht (Ev.ifp (by omega) (Ev.bind hr (Ev.const rfl)))
end Go.Proofs.YtfkofbabeghgkaaGreat.Z
end

section
namespace Go.Proofs.YtfkofbabeghgkaaGreat.Z
def reg (s n : Int) : Obj := .cells #[.int .u32 s, .int .u64 n] 94 (0, 0)
set_option maxRecDepth 100000 in
theorem reg_add64 (a : Addr) (n : Int) (w : World) (hc : w.cell? a = some (.int .u64 n)) (hz : w.frozen? a = false) :
    Calls Tryz.prog 111 #[.pointer (some a), .int .u64 1] w fun e w' => (∃ v, e = .returned v) ∧ w' = w.setCell a (.int .u64 (IntKind.u64.wrap (n + 1))) := by
  have hl := run_call_add (P := Tryz.prog) Tryz.func135 (by kernel_rfl) (by kernel_rfl) (by kernel_rfl) .u64 (by kernel_rfl) (y := 1) (s := IntKind.u64.wrap (n + 1)) hc hz (by simp [Op.intArith])
  go_enter Tryz.func111, Tryz.ntmps111
  go_wp2
  go_ret
  exact ⟨⟨_, rfl⟩, rfl⟩
set_option maxRecDepth 100000 in
theorem reg_meter (g : Nat) (s n : Int) (w : World) (hb : w.heap[g]? = some (reg s n)) :
    Calls Tryz.prog 83 #[.pointer (some ⟨g, 1, none⟩), .int .i64 1] w fun e w' => ∃ n', (∃ v, e = .returned v) ∧ Step g w w' (reg s n') := by
  have q5 : w.cell? ⟨g, 1, none⟩ = some (.int .u64 n) := (blk_cell hb 1).trans rfl
  have f5 : w.frozen? ⟨g, 1, none⟩ = false := blk_frozen hb 1
  have HS : Aside0 (Step g w (w.setCell ⟨g, 1, none⟩ (.int .u64 (IntKind.u64.wrap (n + 1)))) (reg s (IntKind.u64.wrap (n + 1)))) := ⟨(Step.refl hb).set 1 _ rfl⟩
  clear hb
  go_enter Tryz.func83, Tryz.ntmps83
  go_wp2_with (go_at_call 111; refine (reg_add64 ⟨g, 1, none⟩ n _ q5 f5).mono ?_; rintro e w' ⟨⟨v, rfl⟩, rfl⟩)
  go_ret
  exact ⟨_, ⟨_, rfl⟩, HS.out⟩
def rnd (s : Int) : Int := Go.bits .xor .u32 (shl .u32 s 1) (Go.bits .and .u32 2168537515 (IntKind.u32.wrap (-(shr .u32 s 31))))
def rnds : Nat → Int → Int
  | 0, s => s
  | d + 1, s => rnds d (rnd s)
def putC (s b : Int) : Int := rnds 8 (Go.bits .xor .u32 s (shl .u32 (IntKind.u32.wrap b) 24))
set_option maxRecDepth 100000 in
theorem reg_put (g : Nat) (s n b : Int) (w : World) (hb : w.heap[g]? = some (reg s n)) :
    Calls Tryz.prog 52 #[.pointer (some ⟨g, 0, none⟩), .int .u8 b] w fun e w' => ∃ n', e = .returned (.tuple #[]) ∧ Step g w w' (reg (putC s b) n') := by
  have HS := ak_ (Step.refl hb)
  have HB := ak_ hb
  clear hb
  go_enter Tryz.func52, Tryz.ntmps52
  go_wp2_with (go_at_call 83; refine (reg_meter g s n _ HB.out).mono ?_; rintro e w1 ⟨n', ⟨v, rfl⟩, h1⟩; have S1 := ak_ h1; have q0 : w1.cell? ⟨g, 0, none⟩ = some (.int .u32 s) := (blk_cell h1.1 0).trans rfl; have z0 : w1.frozen? ⟨g, 0, none⟩ = false := blk_frozen h1.1 0; clear h1 HS)
  go_loopw [18] (fun i wr => ∃ (x : Int) (s' : Int), i = .int .i64 x ∧ Aside0 (0 ≤ x ∧ x ≤ 8) ∧ Aside0 (Step g w wr (reg s' n')) ∧ Aside0 (rnds (8 - x).toNat s' = putC s b)) (fun i _ => 8 - (intOf i).toNat)
  case atStart => exact ⟨0, _, rfl, ⟨by omega⟩, ⟨S1.out.set 0 _ rfl⟩, ⟨rfl⟩⟩
  case round =>
    obtain ⟨x, s', rfl, HX, HS, HF⟩ := hrel
    obtain ⟨hx0, hx1⟩ := HX.out
    have k0 : wr.cell? ⟨g, 0, none⟩ = some (.int .u32 s') := (blk_cell HS.out.1 0).trans rfl
    have y0 : wr.frozen? ⟨g, 0, none⟩ = false := blk_frozen HS.out.1 0
    by_cases hlt : x < 8
    · have hlt2 : decide (x < 8) = true := decide_eq_true hlt
      have ew : wrap64 (x + 1) = x + 1 := by unfold wrap64; omega
      have hF : rnds (8 - (x + 1)).toNat (rnd s') = putC s b := by
        have h := HF.out
        rw [show (8 - x).toNat = (8 - (x + 1)).toNat + 1 by omega, rnds] at h
        exact h
      have HF' := ak_ hF
      have L := ak_ hlt
      have EW := ak_ ew
      clear hF hx0 hx1 hlt ew
      go_wp2
      go_still_tail 16, (by kernel_rfl)
      change wpList _ _ _ _ _ wr.drew
      have HD := ak_ HS.out.drew
      obtain ⟨wd, hwd⟩ : ∃ wd, wd = wr.drew := ⟨_, rfl⟩
      rw [← hwd] at HD ⊢
      have k1 : wd.cell? ⟨g, 0, none⟩ = some (.int .u32 s') := (blk_cell HD.out.1 0).trans rfl
      have y1 : wd.frozen? ⟨g, 0, none⟩ = false := blk_frozen HD.out.1 0
      clear hwd k0 y0
      go_wp2
      have hl := L.out
      go_roundw
      case rel => exact ⟨x + 1, _, by rw [EW.out], ⟨by have := HX.out; omega⟩, ⟨HD.out.set 0 _ rfl⟩, HF'⟩
      case measure =>
        have := HX.out
        simp [EW.out, intOf]
        omega
    · have hge : decide (x < 8) = false := decide_eq_false hlt
      have hF := HF.out
      rw [show (8 - x).toNat = 0 by omega, rnds] at hF
      clear hx0 hx1 hlt k0 y0
      go_wp2
      go_end0
      exact ⟨_, rfl, hF ▸ HS.out⟩
def sumC (a : ByteArray) : Nat → Int → Int → Int
  | 0, _, s => s
  | d + 1, i, s => sumC a d (i + 1) (putC s (bt a i))
set_option maxRecDepth 100000 in
set_option maxHeartbeats 1600000 in
theorem sum_calls (a : ByteArray) (hs : (a.size : Int) ≤ 9223372036854775807) (w : World) :
    Calls Tryz.prog 29 #[.string a] w fun e w' => e = .returned (.int .u32 (sumC a a.size 0 0)) ∧ Below w.heap.size w w' := by
  have HA := ak_ hs
  clear hs
  go_enter Tryz.func29, Tryz.ntmps29
  go_wp2_with ((with_reducible refine gate_dst (N := 3) rfl ?_); refine box_event ?hg (N := 3) ?hd (cs := #[.int .u32 0, .int .u64 0]) (t := 94) ?hr ?_; (case hd => rfl); (case hg => rfl); (case hr => first | (go_simp; done) | (go_simp; rfl)); intro g hg w1 hx hb; have BX := ak_ hx; have BB := ak_ hb; have GG := ak_ (show w.heap.size ≤ g by omega); clear hx hb hg)
  go_loopw [7] (fun i wr => ∃ (x : Int) (s' n' : Int), i = .int .i64 x ∧ Aside0 (0 ≤ x ∧ x ≤ a.size) ∧ Aside0 (Below w.heap.size w wr ∧ wr.heap[g]? = some (reg s' n')) ∧ Aside0 (sumC a (a.size - x.toNat) x s' = sumC a a.size 0 0)) (fun i _ => a.size - (intOf i).toNat)
  case atStart => exact ⟨0, 0, 0, rfl, ⟨by omega⟩, ⟨BB.out, BX.out⟩, ⟨rfl⟩⟩
  case round =>
    obtain ⟨x, s', n', rfl, HX, HS, HF⟩ := hrel
    obtain ⟨hx0, hx1⟩ := HX.out
    have hsz := HA.out
    by_cases hlt : x < (a.size : Int)
    · have hlt2 : decide (x < (a.size : Int)) = true := decide_eq_true hlt
      have p0 : ((0 : Int) ≤ x) = True := eq_true hx0
      have p1 : (x < (a.size : Int)) = True := eq_true hlt
      have ew : wrap64 (x + 1) = x + 1 := by unfold wrap64; omega
      have hF : sumC a (a.size - (x + 1).toNat) (x + 1) (putC s' (bt a x)) = sumC a a.size 0 0 := by
        have h := HF.out
        rw [show a.size - x.toNat = (a.size - (x + 1).toNat) + 1 by omega, sumC] at h
        exact h
      have hbt := bt_at a x
      have HF' := ak_ hF
      have L := ak_ hlt
      have EW := ak_ ew
      clear hF hlt ew hx0 hx1 hsz
      go_wp2_with (go_at_call 52; refine (reg_put g s' n' _ _ HS.out.2).mono ?_; rintro e w6 ⟨n2, rfl, h6⟩; have S6 := ak_ h6; clear h6)
      have hl := L.out
      have hx := HX.out
      go_roundw
      case rel => exact ⟨x + 1, _, n2, by rw [EW.out], ⟨by omega⟩, ⟨HS.out.1.trans (S6.out.2.2 _ GG.out), S6.out.1⟩, HF'⟩
      case measure =>
        simp [EW.out, intOf]
        omega
    · have hge : decide (x < (a.size : Int)) = false := decide_eq_false hlt
      have hF := HF.out
      rw [show a.size - x.toNat = 0 by omega, sumC] at hF
      have k0 : wr.cell? ⟨g, 0, none⟩ = some (.int .u32 s') := (blk_cell HS.out.2 0).trans rfl
      clear hlt hx0 hx1 hsz
      go_wp2
      go_ret
      exact ⟨by rw [← hF]; rfl, HS.out.1⟩
end Go.Proofs.YtfkofbabeghgkaaGreat.Z
end

section
namespace Go.Proofs.YtfkofbabeghgkaaGreat.Z
theorem ofNat32 {a : Nat} (h : a < 4294967296) : (BitVec.ofInt 32 (a : Int)).toNat = a := by
  rw [BitVec.ofInt_natCast, BitVec.toNat_ofNat]; exact Nat.mod_eq_of_lt h
theorem xor32 {a b : Nat} (ha : a < 4294967296) (hb : b < 4294967296) : Go.bits .xor .u32 (a : Int) (b : Int) = ((a ^^^ b : Nat) : Int) := by
  have hx : a ^^^ b < 2 ^ 32 := Nat.xor_lt_two_pow (n := 32) ha hb
  show IntKind.u32.wrap ((BitVec.ofInt 32 (a : Int) ^^^ BitVec.ofInt 32 (b : Int)).toNat : Int) = _
  rw [BitVec.toNat_xor, ofNat32 ha, ofNat32 hb, IntKind.wrap_u32]
  omega
theorem and32 {a b : Nat} (ha : a < 4294967296) (hb : b < 4294967296) : Go.bits .and .u32 (a : Int) (b : Int) = ((a &&& b : Nat) : Int) := by
  have hx : a &&& b < 2 ^ 32 := Nat.and_lt_two_pow _ hb
  show IntKind.u32.wrap ((BitVec.ofInt 32 (a : Int) &&& BitVec.ofInt 32 (b : Int)).toNat : Int) = _
  rw [BitVec.toNat_and, ofNat32 ha, ofNat32 hb, IntKind.wrap_u32]
  omega
def rndN (s : Nat) : Nat := (2 * s % 4294967296) ^^^ (if 2147483648 ≤ s then 2168537515 else 0)
theorem rndN_lt (s : Nat) : rndN s < 4294967296 := by
  unfold rndN
  refine Nat.xor_lt_two_pow (n := 32) (Nat.mod_lt _ (by decide)) ?_
  split <;> decide
theorem rnd_nat {s : Nat} (h : s < 4294967296) : rnd (s : Int) = ((rndN s : Nat) : Int) := by
  unfold rnd rndN shl shr
  have e1 : IntKind.u32.wrap ((s : Int) * 2 ^ min (1 : Int).toNat IntKind.u32.bits) = ((2 * s % 4294967296 : Nat) : Int) := by
    rw [IntKind.wrap_u32, show (2 : Int) ^ min (1 : Int).toNat IntKind.u32.bits = 2 from rfl]
    omega
  have e2 : (s : Int) / 2 ^ min (31 : Int).toNat IntKind.u32.bits = ((s / 2147483648 : Nat) : Int) := by
    rw [show (2 : Int) ^ min (31 : Int).toNat IntKind.u32.bits = 2147483648 from rfl]
    omega
  rw [e1, e2]
  by_cases hs : 2147483648 ≤ s
  · rw [if_pos hs, show s / 2147483648 = 1 by omega]
    have e3 : IntKind.u32.wrap (-((1 : Nat) : Int)) = ((4294967295 : Nat) : Int) := by rw [IntKind.wrap_u32]; decide
    rw [e3, show (2168537515 : Int) = ((2168537515 : Nat) : Int) from rfl, and32 (by decide) (by decide), show 2168537515 &&& 4294967295 = 2168537515 by decide, xor32 (Nat.mod_lt _ (by decide)) (by decide)]
  · rw [if_neg hs, show s / 2147483648 = 0 by omega]
    have e3 : IntKind.u32.wrap (-((0 : Nat) : Int)) = ((0 : Nat) : Int) := by rw [IntKind.wrap_u32]; decide
    rw [e3, show (2168537515 : Int) = ((2168537515 : Nat) : Int) from rfl, and32 (by decide) (by decide), show 2168537515 &&& 0 = 0 by decide, xor32 (Nat.mod_lt _ (by decide)) (by decide)]
def rndsN : Nat → Nat → Nat
  | 0, s => s
  | d + 1, s => rndsN d (rndN s)
theorem rndsN_lt : ∀ (d s : Nat), s < 4294967296 → rndsN d s < 4294967296
  | 0, _, h => h
  | d + 1, s, _ => rndsN_lt d _ (rndN_lt s)
theorem rnds_nat : ∀ (d s : Nat), s < 4294967296 → rnds d (s : Int) = ((rndsN d s : Nat) : Int)
  | 0, _, _ => rfl
  | d + 1, s, h => by rw [rnds, rnd_nat h, rnds_nat d _ (rndN_lt s)]; rfl
def putN (s b : Nat) : Nat := rndsN 8 (s ^^^ (b * 16777216))
theorem putN_lt {s b : Nat} (hs : s < 4294967296) (hb : b < 256) : putN s b < 4294967296 := rndsN_lt 8 _ (Nat.xor_lt_two_pow (n := 32) hs (by show _ < 4294967296; omega))
theorem putC_nat {s b : Nat} (hs : s < 4294967296) (hb : b < 256) : putC (s : Int) (b : Int) = ((putN s b : Nat) : Int) := by
  unfold putC putN shl
  have e1 : IntKind.u32.wrap (IntKind.u32.wrap (b : Int) * 2 ^ min (24 : Int).toNat IntKind.u32.bits) = ((b * 16777216 : Nat) : Int) := by
    rw [IntKind.wrap_u32, IntKind.wrap_u32, show (2 : Int) ^ min (24 : Int).toNat IntKind.u32.bits = 16777216 from rfl]
    omega
  rw [e1, xor32 hs (by omega), rnds_nat 8 _ (Nat.xor_lt_two_pow (n := 32) hs (by show _ < 4294967296; omega))]
def crc : List UInt8 → Nat → Nat
  | [], s => s
  | b :: r, s => crc r (putN s b.toNat)
theorem crc_lt : ∀ (l : List UInt8) (s : Nat), s < 4294967296 → crc l s < 4294967296
  | [], _, h => h
  | b :: r, s, h => crc_lt r _ (putN_lt h b.toNat_lt)
theorem sumC_nat (a : ByteArray) : ∀ (d i s : Nat), s < 4294967296 → i + d = a.data.toList.length → sumC a d (i : Int) (s : Int) = ((crc (a.data.toList.drop i) s : Nat) : Int)
  | 0, i, s, _, hi => by rw [sumC, List.drop_of_length_le (by omega)]; rfl
  | d + 1, i, s, hs, hi => by
    have hlt : i < a.data.toList.length := by omega
    have hb : bt a (i : Int) = ((a.data.toList[i]).toNat : Int) := by
      have hz : a.size = a.data.toList.length := by rw [Array.length_toList]; rfl
      unfold bt
      rw [dif_pos (by rw [Int.toNat_natCast]; omega)]
      simp only [Int.toNat_natCast]
      rfl
    rw [sumC, hb, putC_nat hs (a.data.toList[i]).toNat_lt, show (i : Int) + 1 = ((i + 1 : Nat) : Int) by omega, sumC_nat a d (i + 1) _ (putN_lt hs (a.data.toList[i]).toNat_lt) (by omega), List.drop_eq_getElem_cons hlt]
    rfl
theorem sum_nat (a : ByteArray) : sumC a a.size 0 0 = ((crc a.data.toList 0 : Nat) : Int) := by
  have := sumC_nat a a.size 0 0 (by decide) (by rw [Array.length_toList, Nat.zero_add]; rfl)
  rwa [List.drop_zero] at this
end Go.Proofs.YtfkofbabeghgkaaGreat.Z
end

section
namespace Go.Proofs.YtfkofbabeghgkaaGreat.Z
attribute [local go_sem] max2_int min2_int max_two min_two max_three min_three max_four min_four   -- for this text's walks alone
def cmp_isNaN_string.f (a0 : ByteArray) : Option (Bool) := some (a0.toList != a0.toList)
set_option maxHeartbeats 8000000 in
set_option maxRecDepth 100000 in
theorem cmp_isNaN_string.calls (a0 : ByteArray) (r : Bool) (w : World) (h : cmp_isNaN_string.f a0 = some r) :
  Calls Tryz.prog 120 #[.string a0] w fun e w' => e = .returned (.bool r) ∧ Drawn0 w w' := by
 have H : (some (a0.toList != a0.toList)) = some r := h
 clear h
 obtain rfl := Option.some.inj H
 go_enter Tryz.func120, Tryz.ntmps120
 go_wp2
 go_ret
 exact ⟨by first | rfl | (simp; done) | (simp [*]; done), by repeat (first | exact Drawn0.refl _ | apply Drawn0.step)⟩
def cmp_Compare_string.f (a0 : ByteArray) (a1 : ByteArray) : Option (Int) := (cmp_isNaN_string.f a0).bind fun t246 => ((cmp_isNaN_string.f a1).bind fun t247 => (if t246 = true then (if t247 = true then (some 0) else (some (-1))) else (if t247 = true then (some 1) else (if (Op.bytesLess a0.toList a1.toList) = true then (some (-1)) else (if (Op.bytesLess a1.toList a0.toList) = true then (some 1) else (some 0))))))
set_option maxHeartbeats 8000000 in
set_option maxRecDepth 100000 in
theorem cmp_Compare_string.calls (a0 : ByteArray) (a1 : ByteArray) (r : Int) (w : World) (h : cmp_Compare_string.f a0 a1 = some r) :
  Calls Tryz.prog 96 #[.string a0, .string a1] w fun e w' => e = .returned (.int .i64 r) ∧ Drawn0 w w' := by
 have H : ((cmp_isNaN_string.f a0).bind fun t246 => ((cmp_isNaN_string.f a1).bind fun t247 => (if t246 = true then (if t247 = true then (some 0) else (some (-1))) else (if t247 = true then (some 1) else (if (Op.bytesLess a0.toList a1.toList) = true then (some (-1)) else (if (Op.bytesLess a1.toList a0.toList) = true then (some 1) else (some 0))))))) = some r := h
 clear h
 replace H := Option.bind_eq_some_iff.mp H
 obtain ⟨t246, A30, H⟩ := H
 replace H : ((cmp_isNaN_string.f a1).bind fun t247 => (if t246 = true then (if t247 = true then (some 0) else (some (-1))) else (if t247 = true then (some 1) else (if (Op.bytesLess a0.toList a1.toList) = true then (some (-1)) else (if (Op.bytesLess a1.toList a0.toList) = true then (some 1) else (some 0)))))) = some r := H
 have A3 := ak_ A30
 clear A30
 replace H := Option.bind_eq_some_iff.mp H
 obtain ⟨t247, A40, H⟩ := H
 replace H : (if t246 = true then (if t247 = true then (some 0) else (some (-1))) else (if t247 = true then (some 1) else (if (Op.bytesLess a0.toList a1.toList) = true then (some (-1)) else (if (Op.bytesLess a1.toList a0.toList) = true then (some 1) else (some 0))))) = some r := H
 have A4 := ak_ A40
 clear A40
 by_cases c5 : t246 = true
 ·subst c5
  have H1 : (if t247 = true then (some 0) else (some (-1))) = some r := by rw [if_pos rfl] at H; exact H
  clear H
  have H := H1
  clear H1
  by_cases c6 : t247 = true
  ·subst c6
   have H1 : (some 0) = some r := by rw [if_pos rfl] at H; exact H
   clear H
   have H := H1
   clear H1
   obtain rfl := Option.some.inj H
   go_enter Tryz.func96, Tryz.ntmps96
   go_wp2_with (first | ((with_reducible refine gate_callee (f := 120) rfl ?_); refine gl_ (some 8) Tryz.func120 #[.string a0] ?_; (with_reducible refine (cmp_isNaN_string.calls a0 true _ A3.out).mono ?_); rintro e w' ⟨rfl, ⟨nd, rfl⟩⟩; refine ⟨_, rfl, ?_⟩) | ((with_reducible refine gate_callee (f := 120) rfl ?_); refine gl_ (some 10) Tryz.func120 #[.string a1] ?_; (with_reducible refine (cmp_isNaN_string.calls a1 true _ A4.out).mono ?_); rintro e w' ⟨rfl, ⟨nd, rfl⟩⟩; refine ⟨_, rfl, ?_⟩))
   go_ret
   exact ⟨by first | rfl | (simp; done) | (simp [*]; done), by repeat (first | exact Drawn0.refl _ | apply Drawn0.step)⟩
  replace c6 := Bool.eq_false_iff.mpr c6
  subst c6
  have H1 : (some (-1)) = some r := by rw [if_neg (show ¬ (false = true) by decide)] at H; exact H
  clear H
  have H := H1
  clear H1
  obtain rfl := Option.some.inj H
  go_enter Tryz.func96, Tryz.ntmps96
  go_wp2_with (first | ((with_reducible refine gate_callee (f := 120) rfl ?_); refine gl_ (some 8) Tryz.func120 #[.string a0] ?_; (with_reducible refine (cmp_isNaN_string.calls a0 true _ A3.out).mono ?_); rintro e w' ⟨rfl, ⟨nd, rfl⟩⟩; refine ⟨_, rfl, ?_⟩) | ((with_reducible refine gate_callee (f := 120) rfl ?_); refine gl_ (some 10) Tryz.func120 #[.string a1] ?_; (with_reducible refine (cmp_isNaN_string.calls a1 false _ A4.out).mono ?_); rintro e w' ⟨rfl, ⟨nd, rfl⟩⟩; refine ⟨_, rfl, ?_⟩))
  go_ret
  exact ⟨by first | rfl | (simp; done) | (simp [*]; done), by repeat (first | exact Drawn0.refl _ | apply Drawn0.step)⟩
 replace c5 := Bool.eq_false_iff.mpr c5
 subst c5
 have H1 : (if t247 = true then (some 1) else (if (Op.bytesLess a0.toList a1.toList) = true then (some (-1)) else (if (Op.bytesLess a1.toList a0.toList) = true then (some 1) else (some 0)))) = some r := by rw [if_neg (show ¬ (false = true) by decide)] at H; exact H
 clear H
 have H := H1
 clear H1
 by_cases c7 : t247 = true
 ·subst c7
  have H1 : (some 1) = some r := by rw [if_pos rfl] at H; exact H
  clear H
  have H := H1
  clear H1
  obtain rfl := Option.some.inj H
  go_enter Tryz.func96, Tryz.ntmps96
  go_wp2_with (first | ((with_reducible refine gate_callee (f := 120) rfl ?_); refine gl_ (some 8) Tryz.func120 #[.string a0] ?_; (with_reducible refine (cmp_isNaN_string.calls a0 false _ A3.out).mono ?_); rintro e w' ⟨rfl, ⟨nd, rfl⟩⟩; refine ⟨_, rfl, ?_⟩) | ((with_reducible refine gate_callee (f := 120) rfl ?_); refine gl_ (some 10) Tryz.func120 #[.string a1] ?_; (with_reducible refine (cmp_isNaN_string.calls a1 true _ A4.out).mono ?_); rintro e w' ⟨rfl, ⟨nd, rfl⟩⟩; refine ⟨_, rfl, ?_⟩))
  go_ret
  exact ⟨by first | rfl | (simp; done) | (simp [*]; done), by repeat (first | exact Drawn0.refl _ | apply Drawn0.step)⟩
 replace c7 := Bool.eq_false_iff.mpr c7
 subst c7
 have H1 : (if (Op.bytesLess a0.toList a1.toList) = true then (some (-1)) else (if (Op.bytesLess a1.toList a0.toList) = true then (some 1) else (some 0))) = some r := by rw [if_neg (show ¬ (false = true) by decide)] at H; exact H
 clear H
 have H := H1
 clear H1
 by_cases c8 : (Op.bytesLess a0.toList a1.toList) = true
 ·rw [if_pos c8] at H
  have c8b0 : (Op.bytesLess a0.toList a1.toList) = true := c8
  clear c8
  obtain rfl := Option.some.inj H
  go_enter Tryz.func96, Tryz.ntmps96
  go_wp2_with (first | ((with_reducible refine gate_callee (f := 120) rfl ?_); refine gl_ (some 8) Tryz.func120 #[.string a0] ?_; (with_reducible refine (cmp_isNaN_string.calls a0 false _ A3.out).mono ?_); rintro e w' ⟨rfl, ⟨nd, rfl⟩⟩; refine ⟨_, rfl, ?_⟩) | ((with_reducible refine gate_callee (f := 120) rfl ?_); refine gl_ (some 10) Tryz.func120 #[.string a1] ?_; (with_reducible refine (cmp_isNaN_string.calls a1 false _ A4.out).mono ?_); rintro e w' ⟨rfl, ⟨nd, rfl⟩⟩; refine ⟨_, rfl, ?_⟩))
  go_ret
  exact ⟨by first | rfl | (simp; done) | (simp [*]; done), by repeat (first | exact Drawn0.refl _ | apply Drawn0.step)⟩
 rw [if_neg c8] at H
 have c8b0 : (Op.bytesLess a0.toList a1.toList) = false := by simpa using c8
 clear c8
 by_cases c9 : (Op.bytesLess a1.toList a0.toList) = true
 ·rw [if_pos c9] at H
  have c9b0 : (Op.bytesLess a1.toList a0.toList) = true := c9
  clear c9
  obtain rfl := Option.some.inj H
  go_enter Tryz.func96, Tryz.ntmps96
  go_wp2_with (first | ((with_reducible refine gate_callee (f := 120) rfl ?_); refine gl_ (some 8) Tryz.func120 #[.string a0] ?_; (with_reducible refine (cmp_isNaN_string.calls a0 false _ A3.out).mono ?_); rintro e w' ⟨rfl, ⟨nd, rfl⟩⟩; refine ⟨_, rfl, ?_⟩) | ((with_reducible refine gate_callee (f := 120) rfl ?_); refine gl_ (some 10) Tryz.func120 #[.string a1] ?_; (with_reducible refine (cmp_isNaN_string.calls a1 false _ A4.out).mono ?_); rintro e w' ⟨rfl, ⟨nd, rfl⟩⟩; refine ⟨_, rfl, ?_⟩))
  go_ret
  exact ⟨by first | rfl | (simp; done) | (simp [*]; done), by repeat (first | exact Drawn0.refl _ | apply Drawn0.step)⟩
 rw [if_neg c9] at H
 have c9b0 : (Op.bytesLess a1.toList a0.toList) = false := by simpa using c9
 clear c9
 obtain rfl := Option.some.inj H
 go_enter Tryz.func96, Tryz.ntmps96
 go_wp2_with (first | ((with_reducible refine gate_callee (f := 120) rfl ?_); refine gl_ (some 8) Tryz.func120 #[.string a0] ?_; (with_reducible refine (cmp_isNaN_string.calls a0 false _ A3.out).mono ?_); rintro e w' ⟨rfl, ⟨nd, rfl⟩⟩; refine ⟨_, rfl, ?_⟩) | ((with_reducible refine gate_callee (f := 120) rfl ?_); refine gl_ (some 10) Tryz.func120 #[.string a1] ?_; (with_reducible refine (cmp_isNaN_string.calls a1 false _ A4.out).mono ?_); rintro e w' ⟨rfl, ⟨nd, rfl⟩⟩; refine ⟨_, rfl, ?_⟩))
 go_ret
 exact ⟨by first | rfl | (simp; done) | (simp [*]; done), by repeat (first | exact Drawn0.refl _ | apply Drawn0.step)⟩
def item_CheckChanges.l0 : Nat → List (S60) → Int → Int → Option (Int)
 | 0, _, _, _ => none
 | k + 1, x5, x6, x7 => if x7 < x6 then (if 0 ≤ x7 then (if x7 < (x5.length : Int) then ((item_right.f ((rd_T60 x5 x7).f0) ((rd_T60 x5 x7).f2)).bind fun t245 => (if t245 = true then (if ((rd_T60 x5 x7).f1 = true) then (item_CheckChanges.l0 k x5 x6 (wrap64 (x7 + 1))) else (if ((rd_T60 x5 x7).f2).toList = ([] : List UInt8) then (item_CheckChanges.l0 k x5 x6 (wrap64 (x7 + 1))) else (some 4))) else (some 4))) else (none)) else (none)) else (some 0)
def item_CheckChanges.f (k : Nat) (l0 : List (S60)) : Option (Int) := item_CheckChanges.l0 k l0 (l0.length : Int) 0
theorem item_CheckChanges.mono_l : ∀ k, (∀ y0 y1 y2, LeO (item_CheckChanges.l0 k y0 y1 y2) (item_CheckChanges.l0 (k + 1) y0 y1 y2))
 | 0 => fun _ _ _ r h => by simp [item_CheckChanges.l0] at h
 | k + 1 => by
  have ih0 := item_CheckChanges.mono_l k
  ·intro y0 y1 y2
   unfold item_CheckChanges.l0
   repeat' first
   | (with_reducible exact ih0 _ _ _)
   | (with_reducible exact LeO.refl _)
   | (with_reducible exact LeO.none _)
   | (with_reducible refine LeO.ite ?_ ?_)
   | (with_reducible refine LeO.bind ?_ (fun _ => ?_))
   | exact ih0 _ _ _
   | exact LeO.none _
   | refine LeO.ite ?_ ?_
   | refine LeO.bind ?_ (fun _ => ?_)
theorem item_CheckChanges.mono : ∀ a0 k, LeO (item_CheckChanges.f k a0) (item_CheckChanges.f (k + 1) a0) := by
 intro a0 k
 have ih0 := item_CheckChanges.mono_l k
 unfold item_CheckChanges.f
 repeat' first
   | (with_reducible exact ih0 _ _ _)
   | (with_reducible exact LeO.refl _)
   | (with_reducible exact LeO.none _)
   | (with_reducible refine LeO.ite ?_ ?_)
   | (with_reducible refine LeO.bind ?_ (fun _ => ?_))
   | exact ih0 _ _ _
   | exact LeO.none _
   | refine LeO.ite ?_ ?_
   | refine LeO.bind ?_ (fun _ => ?_)
set_option maxHeartbeats 8000000 in
set_option maxRecDepth 100000 in
theorem item_CheckChanges.calls (k : Nat) (A0 : Option Addr) (c0 : Nat) (l0 : List (S60)) (r : Int) (w : World) (hr0 : Kd.C k60 w A0 l0.length l0) (hc0 : l0.length ≤ c0) (h : item_CheckChanges.f k l0 = some r) :
  Calls Tryz.prog 63 #[.slice A0 l0.length c0] w fun e w' => e = .returned (.int .i64 r) ∧ Below w.heap.size w w' := by
 have hu60 := Tryz.underlying60
 have HR0 := ak_ hr0
 have HC0 := ak_ hc0
 clear hr0 hc0
 have HB := ak_ (Below.refl w.heap.size w)
 have H : (item_CheckChanges.l0 k l0 (l0.length : Int) 0) = some r := h
 clear h
 have H' := ak_ H
 clear H
 go_enter Tryz.func63, Tryz.ntmps63
 go_wp2
 go_loopg [7] k (fun kq v7 w' => ∃ (x7_1 : Int), v7 = .int .i64 x7_1 ∧ Aside0 (item_CheckChanges.l0 kq l0 (l0.length : Int) x7_1 = some r) ∧ Aside0 (kq ≤ k) ∧ Aside0 (Below w.heap.size w w'))
 case atStart => exact ⟨(0), (by first | rfl | (simp; done) | (simp [*]; done)), H', ⟨Nat.le_refl _⟩, ⟨bel_⟩⟩
 case round =>
  clear H'
  obtain ⟨x7_1, rfl, HA, HK1, HB⟩ := hrel
  cases gk with
  | zero => exact absurd HA.out (by simp [item_CheckChanges.l0])
  | succ k1 =>
   have H := HA.out
   clear HA
   simp only [item_CheckChanges.l0] at H
   by_cases c2 : x7_1 < (l0.length : Int)
   ·rw [if_pos c2] at H
    have c2b0 : decide (x7_1 < (l0.length : Int)) = true := decide_eq_true c2
    clear c2
    by_cases c3 : 0 ≤ x7_1
    ·rw [if_pos c3] at H
     have c3b0 : decide (0 ≤ x7_1) = true := decide_eq_true c3
     clear c3
     by_cases c4 : x7_1 < (l0.length : Int)
     ·rw [if_pos c4] at H
      have c4b0 : decide (x7_1 < (l0.length : Int)) = true := decide_eq_true c4
      clear c4
      replace H := Option.bind_eq_some_iff.mp H
      obtain ⟨t245, A50, H⟩ := H
      replace H : (if t245 = true then (if ((rd_T60 l0 x7_1).f1 = true) then (item_CheckChanges.l0 k1 l0 (l0.length : Int) (wrap64 (x7_1 + 1))) else (if ((rd_T60 l0 x7_1).f2).toList = ([] : List UInt8) then (item_CheckChanges.l0 k1 l0 (l0.length : Int) (wrap64 (x7_1 + 1))) else (some 4))) else (some 4)) = some r := H
      have A5 := ak_ A50
      clear A50
      by_cases c6 : t245 = true
      ·subst c6
       have H1 : (if ((rd_T60 l0 x7_1).f1 = true) then (item_CheckChanges.l0 k1 l0 (l0.length : Int) (wrap64 (x7_1 + 1))) else (if ((rd_T60 l0 x7_1).f2).toList = ([] : List UInt8) then (item_CheckChanges.l0 k1 l0 (l0.length : Int) (wrap64 (x7_1 + 1))) else (some 4))) = some r := by rw [if_pos rfl] at H; exact H
       clear H
       have H := H1
       clear H1
       obtain ⟨bq7, hbq7⟩ : ∃ b_ : Bool, b_ = ((rd_T60 l0 x7_1).f1) := ⟨_, rfl⟩
       replace H : (if (bq7 = true) then (item_CheckChanges.l0 k1 l0 (l0.length : Int) (wrap64 (x7_1 + 1))) else (if ((rd_T60 l0 x7_1).f2).toList = ([] : List UInt8) then (item_CheckChanges.l0 k1 l0 (l0.length : Int) (wrap64 (x7_1 + 1))) else (some 4))) = some r := by rw [← hbq7] at H; exact H
       have Nbq7 := ak_ hbq7
       clear hbq7
       by_cases c8 : (bq7 = true)
       ·subst c8
        have H1 : (item_CheckChanges.l0 k1 l0 (l0.length : Int) (wrap64 (x7_1 + 1))) = some r := by rw [if_pos rfl] at H; exact H
        clear H
        have H := H1
        clear H1
        have H' := ak_ H
        clear H
        have p243 : 0 ≤ (x7_1 : Int) := of_decide_eq_true (by first | (with_reducible assumption) | assumption)
        have q243 : x7_1 < (l0.length : Int) := of_decide_eq_true (by first | (with_reducible assumption) | assumption)
        obtain ⟨ad243, e243, hx243_0, hx243_1, hx243_2⟩ := at_T60 HR0.out x7_1 p243 q243
        (try rw [← Nbq7.out] at hx243_1)
        cases e243
        replace hx243_0 := (HB.out.cell (World.block_lt_of_cell? w _ hx243_0)).trans hx243_0
        replace hx243_1 := (HB.out.cell (World.block_lt_of_cell? w _ hx243_1)).trans hx243_1
        replace hx243_2 := (HB.out.cell (World.block_lt_of_cell? w _ hx243_2)).trans hx243_2
        replace p243 := eq_true p243
        replace q243 := eq_true q243
        go_wp2_with (first | ((with_reducible refine gate_dst (N := 4) rfl ?_); refine bx_ (N := 4) (cs := #[.string (⟨#[]⟩ : ByteArray), .bool false, .string (⟨#[]⟩ : ByteArray)]) (t := 60) ?_; intro gb244 hg w9 hbox hb; have BK244 := ak_ (hbox); have GW244 := ge_ hg; have GE244 := ge_ hg; replace HB := hb_ hb; clear hb hbox hg; obtain ⟨hcz10_0, hcz10_1, hcz10_2⟩ := cl3_ BK244; obtain ⟨hfz10_0, hfz10_1, hfz10_2⟩ := fz3_ BK244) | ((with_reducible refine gate_callee (f := 72) rfl ?_); refine gl_ (some 15) Tryz.func72 #[.string ((rd_T60 l0 x7_1).f0), .string ((rd_T60 l0 x7_1).f2)] ?_; (with_reducible refine (item_right.calls ((rd_T60 l0 x7_1).f0) ((rd_T60 l0 x7_1).f2) true _ A5.out).mono ?_); rintro e w' ⟨rfl, ⟨nd, rfl⟩⟩; refine ⟨_, rfl, ?_⟩))
        go_roundg k1
        case measure => have := HK1.out; omega
        case rel => exact ⟨(wrap64 (x7_1 + 1)), (by first | rfl | (simp; done) | (simp [*]; done)), H', ⟨by have := HK1.out; omega⟩, ⟨bel_⟩⟩
       replace c8 := Bool.eq_false_iff.mpr c8
       subst c8
       have H1 : (if ((rd_T60 l0 x7_1).f2).toList = ([] : List UInt8) then (item_CheckChanges.l0 k1 l0 (l0.length : Int) (wrap64 (x7_1 + 1))) else (some 4)) = some r := by rw [if_neg (show ¬ (false = true) by decide)] at H; exact H
       clear H
       have H := H1
       clear H1
       by_cases c11 : ((rd_T60 l0 x7_1).f2).toList = ([] : List UInt8)
       ·rw [if_pos c11] at H
        have c11b0 : (((rd_T60 l0 x7_1).f2).toList == ([] : List UInt8)) = true := beq_iff_eq.mpr c11
        have c11b1 : (((rd_T60 l0 x7_1).f2).toList != ([] : List UInt8)) = false := bne_eq_false_iff_eq.mpr c11
        clear c11
        have H' := ak_ H
        clear H
        have p243 : 0 ≤ (x7_1 : Int) := of_decide_eq_true (by first | (with_reducible assumption) | assumption)
        have q243 : x7_1 < (l0.length : Int) := of_decide_eq_true (by first | (with_reducible assumption) | assumption)
        obtain ⟨ad243, e243, hx243_0, hx243_1, hx243_2⟩ := at_T60 HR0.out x7_1 p243 q243
        (try rw [← Nbq7.out] at hx243_1)
        cases e243
        replace hx243_0 := (HB.out.cell (World.block_lt_of_cell? w _ hx243_0)).trans hx243_0
        replace hx243_1 := (HB.out.cell (World.block_lt_of_cell? w _ hx243_1)).trans hx243_1
        replace hx243_2 := (HB.out.cell (World.block_lt_of_cell? w _ hx243_2)).trans hx243_2
        replace p243 := eq_true p243
        replace q243 := eq_true q243
        go_wp2_with (first | ((with_reducible refine gate_dst (N := 4) rfl ?_); refine bx_ (N := 4) (cs := #[.string (⟨#[]⟩ : ByteArray), .bool false, .string (⟨#[]⟩ : ByteArray)]) (t := 60) ?_; intro gb244 hg w12 hbox hb; have BK244 := ak_ (hbox); have GW244 := ge_ hg; have GE244 := ge_ hg; replace HB := hb_ hb; clear hb hbox hg; obtain ⟨hcz13_0, hcz13_1, hcz13_2⟩ := cl3_ BK244; obtain ⟨hfz13_0, hfz13_1, hfz13_2⟩ := fz3_ BK244) | ((with_reducible refine gate_callee (f := 72) rfl ?_); refine gl_ (some 15) Tryz.func72 #[.string ((rd_T60 l0 x7_1).f0), .string ((rd_T60 l0 x7_1).f2)] ?_; (with_reducible refine (item_right.calls ((rd_T60 l0 x7_1).f0) ((rd_T60 l0 x7_1).f2) true _ A5.out).mono ?_); rintro e w' ⟨rfl, ⟨nd, rfl⟩⟩; refine ⟨_, rfl, ?_⟩))
        go_roundg k1
        case measure => have := HK1.out; omega
        case rel => exact ⟨(wrap64 (x7_1 + 1)), (by first | rfl | (simp; done) | (simp [*]; done)), H', ⟨by have := HK1.out; omega⟩, ⟨bel_⟩⟩
       rw [if_neg c11] at H
       have c11b0 : (((rd_T60 l0 x7_1).f2).toList == ([] : List UInt8)) = false := beq_eq_false_iff_ne.mpr c11
       have c11b1 : (((rd_T60 l0 x7_1).f2).toList != ([] : List UInt8)) = true := bne_iff_ne.mpr c11
       obtain rfl := Option.some.inj H
       have p243 : 0 ≤ (x7_1 : Int) := of_decide_eq_true (by first | (with_reducible assumption) | assumption)
       have q243 : x7_1 < (l0.length : Int) := of_decide_eq_true (by first | (with_reducible assumption) | assumption)
       obtain ⟨ad243, e243, hx243_0, hx243_1, hx243_2⟩ := at_T60 HR0.out x7_1 p243 q243
       (try rw [← Nbq7.out] at hx243_1)
       cases e243
       replace hx243_0 := (HB.out.cell (World.block_lt_of_cell? w _ hx243_0)).trans hx243_0
       replace hx243_1 := (HB.out.cell (World.block_lt_of_cell? w _ hx243_1)).trans hx243_1
       replace hx243_2 := (HB.out.cell (World.block_lt_of_cell? w _ hx243_2)).trans hx243_2
       replace p243 := eq_true p243
       replace q243 := eq_true q243
       go_wp2_with (first | ((with_reducible refine gate_dst (N := 4) rfl ?_); refine bx_ (N := 4) (cs := #[.string (⟨#[]⟩ : ByteArray), .bool false, .string (⟨#[]⟩ : ByteArray)]) (t := 60) ?_; intro gb244 hg w14 hbox hb; have BK244 := ak_ (hbox); have GW244 := ge_ hg; have GE244 := ge_ hg; replace HB := hb_ hb; clear hb hbox hg; obtain ⟨hcz15_0, hcz15_1, hcz15_2⟩ := cl3_ BK244; obtain ⟨hfz15_0, hfz15_1, hfz15_2⟩ := fz3_ BK244) | ((with_reducible refine gate_callee (f := 72) rfl ?_); refine gl_ (some 15) Tryz.func72 #[.string ((rd_T60 l0 x7_1).f0), .string ((rd_T60 l0 x7_1).f2)] ?_; (with_reducible refine (item_right.calls ((rd_T60 l0 x7_1).f0) ((rd_T60 l0 x7_1).f2) true _ A5.out).mono ?_); rintro e w' ⟨rfl, ⟨nd, rfl⟩⟩; refine ⟨_, rfl, ?_⟩))
       go_ret
       exact ⟨by first | rfl | (simp [errW_none, errW_some] <;> rfl) | (simp [*, errW_none, errW_some] <;> rfl), bel_⟩
      replace c6 := Bool.eq_false_iff.mpr c6
      subst c6
      have H1 : (some 4) = some r := by rw [if_neg (show ¬ (false = true) by decide)] at H; exact H
      clear H
      have H := H1
      clear H1
      obtain rfl := Option.some.inj H
      have p243 : 0 ≤ (x7_1 : Int) := of_decide_eq_true (by first | (with_reducible assumption) | assumption)
      have q243 : x7_1 < (l0.length : Int) := of_decide_eq_true (by first | (with_reducible assumption) | assumption)
      obtain ⟨ad243, e243, hx243_0, hx243_1, hx243_2⟩ := at_T60 HR0.out x7_1 p243 q243
      cases e243
      replace hx243_0 := (HB.out.cell (World.block_lt_of_cell? w _ hx243_0)).trans hx243_0
      replace hx243_1 := (HB.out.cell (World.block_lt_of_cell? w _ hx243_1)).trans hx243_1
      replace hx243_2 := (HB.out.cell (World.block_lt_of_cell? w _ hx243_2)).trans hx243_2
      replace p243 := eq_true p243
      replace q243 := eq_true q243
      go_wp2_with (first | ((with_reducible refine gate_dst (N := 4) rfl ?_); refine bx_ (N := 4) (cs := #[.string (⟨#[]⟩ : ByteArray), .bool false, .string (⟨#[]⟩ : ByteArray)]) (t := 60) ?_; intro gb244 hg w16 hbox hb; have BK244 := ak_ (hbox); have GW244 := ge_ hg; have GE244 := ge_ hg; replace HB := hb_ hb; clear hb hbox hg; obtain ⟨hcz17_0, hcz17_1, hcz17_2⟩ := cl3_ BK244; obtain ⟨hfz17_0, hfz17_1, hfz17_2⟩ := fz3_ BK244) | ((with_reducible refine gate_callee (f := 72) rfl ?_); refine gl_ (some 15) Tryz.func72 #[.string ((rd_T60 l0 x7_1).f0), .string ((rd_T60 l0 x7_1).f2)] ?_; (with_reducible refine (item_right.calls ((rd_T60 l0 x7_1).f0) ((rd_T60 l0 x7_1).f2) false _ A5.out).mono ?_); rintro e w' ⟨rfl, ⟨nd, rfl⟩⟩; refine ⟨_, rfl, ?_⟩))
      go_ret
      exact ⟨by first | rfl | (simp [errW_none, errW_some] <;> rfl) | (simp [*, errW_none, errW_some] <;> rfl), bel_⟩
     rw [if_neg c4] at H
     exact absurd H (by simp)
    rw [if_neg c3] at H
    exact absurd H (by simp)
   rw [if_neg c2] at H
   have c2b0 : decide (x7_1 < (l0.length : Int)) = false := decide_eq_false c2
   clear c2
   obtain rfl := Option.some.inj H
   go_wp2
   go_ret
   exact ⟨by first | rfl | (simp [errW_none, errW_some] <;> rfl) | (simp [*, errW_none, errW_some] <;> rfl), bel_⟩
def cmp_Or_api_Errno.l0 : Nat → Int → List Int → Int → Int → Option (Int)
 | 0, _, _, _, _ => none
 | k + 1, x3, x6, x7, x8 => if x8 < x7 then (if 0 ≤ x8 then (if x8 < (x6.length : Int) then (if (rd x6 x8) = x3 then (cmp_Or_api_Errno.l0 k x3 x6 x7 (wrap64 (x8 + 1))) else (some (rd x6 x8))) else (none)) else (none)) else (some x3)
def cmp_Or_api_Errno.f (k : Nat) (l0 : List Int) : Option (Int) := cmp_Or_api_Errno.l0 k 0 l0 (l0.length : Int) 0
theorem cmp_Or_api_Errno.mono_l : ∀ k, (∀ y0 y1 y2 y3, LeO (cmp_Or_api_Errno.l0 k y0 y1 y2 y3) (cmp_Or_api_Errno.l0 (k + 1) y0 y1 y2 y3))
 | 0 => fun _ _ _ _ r h => by simp [cmp_Or_api_Errno.l0] at h
 | k + 1 => by
  have ih0 := cmp_Or_api_Errno.mono_l k
  ·intro y0 y1 y2 y3
   unfold cmp_Or_api_Errno.l0
   repeat' first
   | (with_reducible exact ih0 _ _ _ _)
   | (with_reducible exact LeO.refl _)
   | (with_reducible exact LeO.none _)
   | (with_reducible refine LeO.ite ?_ ?_)
   | (with_reducible refine LeO.bind ?_ (fun _ => ?_))
   | exact ih0 _ _ _ _
   | exact LeO.none _
   | refine LeO.ite ?_ ?_
   | refine LeO.bind ?_ (fun _ => ?_)
theorem cmp_Or_api_Errno.mono : ∀ a0 k, LeO (cmp_Or_api_Errno.f k a0) (cmp_Or_api_Errno.f (k + 1) a0) := by
 intro a0 k
 have ih0 := cmp_Or_api_Errno.mono_l k
 unfold cmp_Or_api_Errno.f
 repeat' first
   | (with_reducible exact ih0 _ _ _ _)
   | (with_reducible exact LeO.refl _)
   | (with_reducible exact LeO.none _)
   | (with_reducible refine LeO.ite ?_ ?_)
   | (with_reducible refine LeO.bind ?_ (fun _ => ?_))
   | exact ih0 _ _ _ _
   | exact LeO.none _
   | refine LeO.ite ?_ ?_
   | refine LeO.bind ?_ (fun _ => ?_)
set_option maxHeartbeats 8000000 in
set_option maxRecDepth 100000 in
theorem cmp_Or_api_Errno.calls (k : Nat) (A0 : Option Addr) (c0 : Nat) (l0 : List Int) (r : Int) (w : World) (hr0 : Kd.C (Kd.int .i64) w A0 l0.length l0) (hc0 : l0.length ≤ c0) (h : cmp_Or_api_Errno.f k l0 = some r) :
  Calls Tryz.prog 48 #[.slice A0 l0.length c0] w fun e w' => e = .returned (.int .i64 r) ∧ Drawn0 w w' := by
 have HR0 := ak_ hr0
 have HC0 := ak_ hc0
 clear hr0 hc0
 have H : (cmp_Or_api_Errno.l0 k 0 l0 (l0.length : Int) 0) = some r := h
 clear h
 have H' := ak_ H
 clear H
 go_enter Tryz.func48, Tryz.ntmps48
 go_wp2
 go_loopg [8] k (fun kq v8 w' => ∃ (x8_1 : Int), v8 = .int .i64 x8_1 ∧ Aside0 (cmp_Or_api_Errno.l0 kq 0 l0 (l0.length : Int) x8_1 = some r) ∧ Aside0 (kq ≤ k) ∧ Drawn0 w w')
 case atStart => exact ⟨(0), (by first | rfl | (simp; done) | (simp [*]; done)), H', ⟨Nat.le_refl _⟩, by repeat (first | exact Drawn0.refl _ | apply Drawn0.step)⟩
 case round =>
  clear H'
  obtain ⟨x8_1, rfl, HA, HK1, ⟨m1, rfl⟩⟩ := hrel
  cases gk with
  | zero => exact absurd HA.out (by simp [cmp_Or_api_Errno.l0])
  | succ k1 =>
   have H := HA.out
   clear HA
   simp only [cmp_Or_api_Errno.l0] at H
   by_cases c2 : x8_1 < (l0.length : Int)
   ·rw [if_pos c2] at H
    have c2b0 : decide (x8_1 < (l0.length : Int)) = true := decide_eq_true c2
    clear c2
    by_cases c3 : 0 ≤ x8_1
    ·rw [if_pos c3] at H
     have c3b0 : decide (0 ≤ x8_1) = true := decide_eq_true c3
     clear c3
     by_cases c4 : x8_1 < (l0.length : Int)
     ·rw [if_pos c4] at H
      have c4b0 : decide (x8_1 < (l0.length : Int)) = true := decide_eq_true c4
      clear c4
      by_cases c5 : (rd l0 x8_1) = 0
      ·rw [if_pos c5] at H
       have c5b0 : ((rd l0 x8_1) == 0) = true := beq_iff_eq.mpr c5
       have c5b1 : ((rd l0 x8_1) != 0) = false := bne_eq_false_iff_eq.mpr c5
       clear c5
       have H' := ak_ H
       clear H
       have p176 : 0 ≤ (x8_1 : Int) := of_decide_eq_true (by first | (with_reducible assumption) | assumption)
       have q176 : x8_1 < (l0.length : Int) := of_decide_eq_true (by first | (with_reducible assumption) | assumption)
       obtain ⟨ad176, e176, hx176_0⟩ := Kd.at_int HR0.out x8_1 p176 q176
       cases e176
       replace p176 := eq_true p176
       replace q176 := eq_true q176
       go_wp2
       go_roundg k1
       case measure => have := HK1.out; omega
       case rel => exact ⟨(wrap64 (x8_1 + 1)), (by first | rfl | (simp; done) | (simp [*]; done)), H', ⟨by have := HK1.out; omega⟩, by repeat (first | exact Drawn0.refl _ | apply Drawn0.step)⟩
      rw [if_neg c5] at H
      have c5b0 : ((rd l0 x8_1) == 0) = false := beq_eq_false_iff_ne.mpr c5
      have c5b1 : ((rd l0 x8_1) != 0) = true := bne_iff_ne.mpr c5
      obtain rfl := Option.some.inj H
      have p176 : 0 ≤ (x8_1 : Int) := of_decide_eq_true (by first | (with_reducible assumption) | assumption)
      have q176 : x8_1 < (l0.length : Int) := of_decide_eq_true (by first | (with_reducible assumption) | assumption)
      obtain ⟨ad176, e176, hx176_0⟩ := Kd.at_int HR0.out x8_1 p176 q176
      cases e176
      replace p176 := eq_true p176
      replace q176 := eq_true q176
      go_wp2
      go_ret
      exact ⟨by first | rfl | (simp; done) | (simp [*]; done), by repeat (first | exact Drawn0.refl _ | apply Drawn0.step)⟩
     rw [if_neg c4] at H
     exact absurd H (by simp)
    rw [if_neg c3] at H
    exact absurd H (by simp)
   rw [if_neg c2] at H
   have c2b0 : decide (x8_1 < (l0.length : Int)) = false := decide_eq_false c2
   clear c2
   obtain rfl := Option.some.inj H
   go_wp2
   go_ret
   exact ⟨by first | rfl | (simp; done) | (simp [*]; done), by repeat (first | exact Drawn0.refl _ | apply Drawn0.step)⟩
def item_place_1.f (a0_0 : ByteArray) (a0_1 : ByteArray) (a1 : ByteArray) : Option (Int) := (cmp_Compare_string.f a0_0 a1).bind fun t249 => (some t249)
set_option maxHeartbeats 8000000 in
set_option maxRecDepth 100000 in
theorem item_place_1.calls (a0_0 : ByteArray) (a0_1 : ByteArray) (a1 : ByteArray) (r : Int) (w : World) (h : item_place_1.f a0_0 a0_1 a1 = some r) :
  Calls Tryz.prog 95 #[.agg #[.string a0_0, .string a0_1], .string a1] w fun e w' => e = .returned (.int .i64 r) ∧ Below w.heap.size w w' := by
 have hu77 := Tryz.underlying77
 have HB := ak_ (Below.refl w.heap.size w)
 have H : ((cmp_Compare_string.f a0_0 a1).bind fun t249 => (some t249)) = some r := h
 clear h
 replace H := Option.bind_eq_some_iff.mp H
 obtain ⟨t249, A30, H⟩ := H
 replace H : (some t249) = some r := H
 have A3 := ak_ A30
 clear A30
 obtain rfl := Option.some.inj H
 go_enter Tryz.func95, Tryz.ntmps95
 go_wp2_with (first | ((with_reducible refine gate_dst (N := 2) rfl ?_); refine bx_ (N := 2) (cs := #[.string a0_0, .string a0_1]) (t := 77) ?_; intro gb248 hg w4 hbox hb; have BK248 := ak_ (hbox); have GW248 := ge_ hg; have GE248 := ge_ hg; replace HB := hb_ hb; clear hb hbox hg; obtain ⟨hcz5_0, hcz5_1⟩ := cl2_ BK248; obtain ⟨hfz5_0, hfz5_1⟩ := fz2_ BK248) | ((with_reducible refine gate_callee (f := 96) rfl ?_); refine gl_ (some 8) Tryz.func96 #[.string a0_0, .string a1] ?_; (with_reducible refine (cmp_Compare_string.calls a0_0 a1 t249 _ A3.out).mono ?_); rintro e w' ⟨rfl, ⟨nd, rfl⟩⟩; refine ⟨_, rfl, ?_⟩))
 go_ret
 exact ⟨by first | rfl | (simp [errW_none, errW_some] <;> rfl) | (simp [*, errW_none, errW_some] <;> rfl), bel_⟩
def slices_BinarySearchFunc_api_Item_api_Item_string_fn95.l0 : Nat → List (S77) → ByteArray → Int → Int → Int → Option (Int × Bool)
 | 0, _, _, _, _, _ => none
 | k + 1, x0, x1, x8, x9, x10 => if x9 < x10 then (if 0 ≤ (wrap64 ((IntKind.u64.wrap (wrap64 (x9 + x10))) / 2)) then (if (wrap64 ((IntKind.u64.wrap (wrap64 (x9 + x10))) / 2)) < (x0.length : Int) then ((item_place_1.f ((rd_T77 x0 (wrap64 ((IntKind.u64.wrap (wrap64 (x9 + x10))) / 2))).f0) ((rd_T77 x0 (wrap64 ((IntKind.u64.wrap (wrap64 (x9 + x10))) / 2))).f1) x1).bind fun t251 => (if t251 < 0 then (slices_BinarySearchFunc_api_Item_api_Item_string_fn95.l0 k x0 x1 x8 (wrap64 ((wrap64 ((IntKind.u64.wrap (wrap64 (x9 + x10))) / 2)) + 1)) x10) else (slices_BinarySearchFunc_api_Item_api_Item_string_fn95.l0 k x0 x1 x8 x9 (wrap64 ((IntKind.u64.wrap (wrap64 (x9 + x10))) / 2))))) else (none)) else (none)) else (if x9 < x8 then (if 0 ≤ x9 then (if x9 < (x0.length : Int) then ((item_place_1.f ((rd_T77 x0 x9).f0) ((rd_T77 x0 x9).f1) x1).bind fun t253 => (some (x9, (t253 == 0)))) else (none)) else (none)) else (some (x9, false)))
def slices_BinarySearchFunc_api_Item_api_Item_string_fn95.f (k : Nat) (l0 : List (S77)) (a1 : ByteArray)  : Option (Int × Bool) := slices_BinarySearchFunc_api_Item_api_Item_string_fn95.l0 k l0 a1 (l0.length : Int) 0 (l0.length : Int)
theorem slices_BinarySearchFunc_api_Item_api_Item_string_fn95.mono_l : ∀ k, (∀ y0 y1 y2 y3 y4, LeO (slices_BinarySearchFunc_api_Item_api_Item_string_fn95.l0 k y0 y1 y2 y3 y4) (slices_BinarySearchFunc_api_Item_api_Item_string_fn95.l0 (k + 1) y0 y1 y2 y3 y4))
 | 0 => fun _ _ _ _ _ r h => by simp [slices_BinarySearchFunc_api_Item_api_Item_string_fn95.l0] at h
 | k + 1 => by
  have ih0 := slices_BinarySearchFunc_api_Item_api_Item_string_fn95.mono_l k
  ·intro y0 y1 y2 y3 y4
   unfold slices_BinarySearchFunc_api_Item_api_Item_string_fn95.l0
   repeat' first
   | (with_reducible exact ih0 _ _ _ _ _)
   | (with_reducible exact LeO.refl _)
   | (with_reducible exact LeO.none _)
   | (with_reducible refine LeO.ite ?_ ?_)
   | (with_reducible refine LeO.bind ?_ (fun _ => ?_))
   | exact ih0 _ _ _ _ _
   | exact LeO.none _
   | refine LeO.ite ?_ ?_
   | refine LeO.bind ?_ (fun _ => ?_)
theorem slices_BinarySearchFunc_api_Item_api_Item_string_fn95.mono : ∀ a0 a1 k, LeO (slices_BinarySearchFunc_api_Item_api_Item_string_fn95.f k a0 a1) (slices_BinarySearchFunc_api_Item_api_Item_string_fn95.f (k + 1) a0 a1) := by
 intro a0 a1 k
 have ih0 := slices_BinarySearchFunc_api_Item_api_Item_string_fn95.mono_l k
 unfold slices_BinarySearchFunc_api_Item_api_Item_string_fn95.f
 repeat' first
   | (with_reducible exact ih0 _ _ _ _ _)
   | (with_reducible exact LeO.refl _)
   | (with_reducible exact LeO.none _)
   | (with_reducible refine LeO.ite ?_ ?_)
   | (with_reducible refine LeO.bind ?_ (fun _ => ?_))
   | exact ih0 _ _ _ _ _
   | exact LeO.none _
   | refine LeO.ite ?_ ?_
   | refine LeO.bind ?_ (fun _ => ?_)
set_option maxHeartbeats 8000000 in
set_option maxRecDepth 100000 in
theorem slices_BinarySearchFunc_api_Item_api_Item_string_fn95.calls (k : Nat) (A0 : Option Addr) (c0 : Nat) (l0 : List (S77)) (a1 : ByteArray)  (r1 : Int) (r2 : Bool) (w : World) (hr0 : Kd.C k77 w A0 l0.length l0) (hc0 : l0.length ≤ c0) (h : slices_BinarySearchFunc_api_Item_api_Item_string_fn95.f k l0 a1 = some (r1, r2)) :
  Calls Tryz.prog 94 #[.slice A0 l0.length c0, .string a1, .func (.func 95) #[] #[]] w fun e w' => e = .returned (.tuple #[.int .i64 r1, .bool r2]) ∧ Below w.heap.size w w' := by
 have hu77 := Tryz.underlying77
 have HR0 := ak_ hr0
 have HC0 := ak_ hc0
 clear hr0 hc0
 have HB := ak_ (Below.refl w.heap.size w)
 have H : (slices_BinarySearchFunc_api_Item_api_Item_string_fn95.l0 k l0 a1 (l0.length : Int) 0 (l0.length : Int)) = some (r1, r2) := h
 clear h
 have H' := ak_ H
 clear H
 go_enter Tryz.func94, Tryz.ntmps94
 go_wp2
 go_loopg [9, 10] k (fun kq v9 v10 w' => ∃ (x9_1 : Int) (x10_1 : Int), v9 = .int .i64 x9_1 ∧ v10 = .int .i64 x10_1 ∧ Aside0 (slices_BinarySearchFunc_api_Item_api_Item_string_fn95.l0 kq l0 a1 (l0.length : Int) x9_1 x10_1 = some (r1, r2)) ∧ Aside0 (kq ≤ k) ∧ Aside0 (Below w.heap.size w w'))
 case atStart => exact ⟨(0), ((l0.length : Int)), (by first | rfl | (simp; done) | (simp [*]; done)), (by first | rfl | (simp; done) | (simp [*]; done)), H', ⟨Nat.le_refl _⟩, ⟨bel_⟩⟩
 case round =>
  clear H'
  try clear p2
  obtain ⟨x9_1, x10_1, rfl, rfl, HA, HK1, HB⟩ := hrel
  cases gk with
  | zero => exact absurd HA.out (by simp [slices_BinarySearchFunc_api_Item_api_Item_string_fn95.l0])
  | succ k1 =>
   have H := HA.out
   clear HA
   simp only [slices_BinarySearchFunc_api_Item_api_Item_string_fn95.l0] at H
   by_cases c4 : x9_1 < x10_1
   ·rw [if_pos c4] at H
    have c4b0 : decide (x9_1 < x10_1) = true := decide_eq_true c4
    clear c4
    obtain ⟨ji5, hji5⟩ : ∃ j_ : Int, (wrap64 ((IntKind.u64.wrap (wrap64 (x9_1 + x10_1))) / 2)) = j_ := ⟨_, rfl⟩
    replace H : (if 0 ≤ (ji5) then (if (ji5) < (l0.length : Int) then ((item_place_1.f ((rd_T77 l0 (ji5)).f0) ((rd_T77 l0 (ji5)).f1) a1).bind fun t251 => (if t251 < 0 then (slices_BinarySearchFunc_api_Item_api_Item_string_fn95.l0 k1 l0 a1 (l0.length : Int) (wrap64 ((ji5) + 1)) x10_1) else (slices_BinarySearchFunc_api_Item_api_Item_string_fn95.l0 k1 l0 a1 (l0.length : Int) x9_1 ji5))) else (none)) else (none)) = some (r1, r2) := by first | (rw [hji5] at H; exact H) | (simp only [hji5] at H ⊢; exact H)
    have hji5w : (IntKind.i64.wrap ((IntKind.u64.wrap (wrap64 (x9_1 + x10_1))) / 2)) = ji5 := (i64_w _).trans hji5
    by_cases c6 : 0 ≤ (ji5)
    ·rw [if_pos c6] at H
     have c6b0 : decide (0 ≤ (ji5)) = true := decide_eq_true c6
     clear c6
     by_cases c7 : (ji5) < (l0.length : Int)
     ·rw [if_pos c7] at H
      have c7b0 : decide ((ji5) < (l0.length : Int)) = true := decide_eq_true c7
      clear c7
      replace H := Option.bind_eq_some_iff.mp H
      obtain ⟨t251, A80, H⟩ := H
      replace H : (if t251 < 0 then (slices_BinarySearchFunc_api_Item_api_Item_string_fn95.l0 k1 l0 a1 (l0.length : Int) (wrap64 ((ji5) + 1)) x10_1) else (slices_BinarySearchFunc_api_Item_api_Item_string_fn95.l0 k1 l0 a1 (l0.length : Int) x9_1 ji5)) = some (r1, r2) := H
      have A8 := ak_ A80
      clear A80
      by_cases c9 : t251 < 0
      ·rw [if_pos c9] at H
       have c9b0 : decide (t251 < 0) = true := decide_eq_true c9
       clear c9
       have H' := ak_ H
       clear H
       have p250 : 0 ≤ ((ji5) : Int) := of_decide_eq_true (by first | (with_reducible assumption) | assumption)
       have q250 : (ji5) < (l0.length : Int) := of_decide_eq_true (by first | (with_reducible assumption) | assumption)
       obtain ⟨ad250, e250, hx250_0, hx250_1⟩ := at_T77 HR0.out (ji5) p250 q250
       cases e250
       replace hx250_0 := (HB.out.cell (World.block_lt_of_cell? w _ hx250_0)).trans hx250_0
       replace hx250_1 := (HB.out.cell (World.block_lt_of_cell? w _ hx250_1)).trans hx250_1
       replace p250 := eq_true p250
       replace q250 := eq_true q250
       go_wp2_with (first | ((with_reducible refine gate_dyn rfl ?_); refine goesD_ (some 30) rfl rfl Tryz.func95 (by kernel_rfl) rfl #[.agg #[.string ((rd_T77 l0 (ji5)).f0), .string ((rd_T77 l0 (ji5)).f1)], .string a1] rfl rfl (by (try simp only [List.map_toArray, List.map_cons, List.map_nil]); first | done | (simp only [hji5]; rfl) | rfl | (simp only [List.length_drop, List.length_take]; rfl)) ?_; (with_reducible refine (item_place_1.calls ((rd_T77 l0 (ji5)).f0) ((rd_T77 l0 (ji5)).f1) a1 t251 _ A8.out).mono ?_); rintro e w10 ⟨rfl, hb⟩; refine ⟨_, rfl, ?_⟩; replace HB := hb_ hb; (try clear hb); (try clear hb2); (try clear hk); (try clear hi)))
       go_roundg k1
       case measure => have := HK1.out; omega
       case rel => exact ⟨(wrap64 ((ji5) + 1)), (x10_1), (by first | rfl | (simp; done) | (simp only [← hji5] <;> (first | rfl | simp)) | (simp [*]; done)), (by first | rfl | (simp; done) | (simp [*]; done)), H', ⟨by have := HK1.out; omega⟩, ⟨bel_⟩⟩
      rw [if_neg c9] at H
      have c9b0 : decide (t251 < 0) = false := decide_eq_false c9
      clear c9
      have H' := ak_ H
      clear H
      have p250 : 0 ≤ ((ji5) : Int) := of_decide_eq_true (by first | (with_reducible assumption) | assumption)
      have q250 : (ji5) < (l0.length : Int) := of_decide_eq_true (by first | (with_reducible assumption) | assumption)
      obtain ⟨ad250, e250, hx250_0, hx250_1⟩ := at_T77 HR0.out (ji5) p250 q250
      cases e250
      replace hx250_0 := (HB.out.cell (World.block_lt_of_cell? w _ hx250_0)).trans hx250_0
      replace hx250_1 := (HB.out.cell (World.block_lt_of_cell? w _ hx250_1)).trans hx250_1
      replace p250 := eq_true p250
      replace q250 := eq_true q250
      go_wp2_with (first | ((with_reducible refine gate_dyn rfl ?_); refine goesD_ (some 30) rfl rfl Tryz.func95 (by kernel_rfl) rfl #[.agg #[.string ((rd_T77 l0 (ji5)).f0), .string ((rd_T77 l0 (ji5)).f1)], .string a1] rfl rfl (by (try simp only [List.map_toArray, List.map_cons, List.map_nil]); first | done | (simp only [hji5]; rfl) | rfl | (simp only [List.length_drop, List.length_take]; rfl)) ?_; (with_reducible refine (item_place_1.calls ((rd_T77 l0 (ji5)).f0) ((rd_T77 l0 (ji5)).f1) a1 t251 _ A8.out).mono ?_); rintro e w11 ⟨rfl, hb⟩; refine ⟨_, rfl, ?_⟩; replace HB := hb_ hb; (try clear hb); (try clear hb2); (try clear hk); (try clear hi)))
      go_roundg k1
      case measure => have := HK1.out; omega
      case rel => exact ⟨(x9_1), (ji5), (by first | rfl | (simp; done) | (simp [*]; done)), (by first | rfl | (simp; done) | (simp only [← hji5] <;> (first | rfl | simp)) | (simp [*]; done)), H', ⟨by have := HK1.out; omega⟩, ⟨bel_⟩⟩
     rw [if_neg c7] at H
     exact absurd H (by simp)
    rw [if_neg c6] at H
    exact absurd H (by simp)
   rw [if_neg c4] at H
   have c4b0 : decide (x9_1 < x10_1) = false := decide_eq_false c4
   clear c4
   by_cases c12 : x9_1 < (l0.length : Int)
   ·rw [if_pos c12] at H
    have c12b0 : decide (x9_1 < (l0.length : Int)) = true := decide_eq_true c12
    clear c12
    by_cases c13 : 0 ≤ x9_1
    ·rw [if_pos c13] at H
     have c13b0 : decide (0 ≤ x9_1) = true := decide_eq_true c13
     clear c13
     by_cases c14 : x9_1 < (l0.length : Int)
     ·rw [if_pos c14] at H
      have c14b0 : decide (x9_1 < (l0.length : Int)) = true := decide_eq_true c14
      clear c14
      replace H := Option.bind_eq_some_iff.mp H
      obtain ⟨t253, A150, H⟩ := H
      replace H : (some (x9_1, (t253 == 0))) = some (r1, r2) := H
      have A15 := ak_ A150
      clear A150
      simp only [Option.some.injEq, Prod.mk.injEq] at H
      obtain ⟨rfl, rfl⟩ := H
      have p252 : 0 ≤ (x9_1 : Int) := of_decide_eq_true (by first | (with_reducible assumption) | assumption)
      have q252 : x9_1 < (l0.length : Int) := of_decide_eq_true (by first | (with_reducible assumption) | assumption)
      obtain ⟨ad252, e252, hx252_0, hx252_1⟩ := at_T77 HR0.out x9_1 p252 q252
      cases e252
      replace hx252_0 := (HB.out.cell (World.block_lt_of_cell? w _ hx252_0)).trans hx252_0
      replace hx252_1 := (HB.out.cell (World.block_lt_of_cell? w _ hx252_1)).trans hx252_1
      replace p252 := eq_true p252
      replace q252 := eq_true q252
      go_wp2_with (first | (go_at_call 95; (with_reducible refine (item_place_1.calls ((rd_T77 l0 x9_1).f0) ((rd_T77 l0 x9_1).f1) a1 t253 _ A15.out).mono ?_); rintro e w16 ⟨rfl, hb⟩; replace HB := hb_ hb; (try clear hb); (try clear hb2); (try clear hk); (try clear hi)))
      go_ret2
      exact ⟨by first | rfl | (simp [errW_none, errW_some] <;> rfl) | (simp [*, errW_none, errW_some] <;> rfl), bel_⟩
     rw [if_neg c14] at H
     exact absurd H (by simp)
    rw [if_neg c13] at H
    exact absurd H (by simp)
   rw [if_neg c12] at H
   have c12b0 : decide (x9_1 < (l0.length : Int)) = false := decide_eq_false c12
   clear c12
   simp only [Option.some.injEq, Prod.mk.injEq] at H
   obtain ⟨rfl, rfl⟩ := H
   go_wp2
   go_ret2
   exact ⟨by first | rfl | (simp [errW_none, errW_some] <;> rfl) | (simp [*, errW_none, errW_some] <;> rfl), bel_⟩
def item_place.f (k : Nat) (l0 : List (S77)) (a1 : ByteArray) : Option (Int × Bool) := (slices_BinarySearchFunc_api_Item_api_Item_string_fn95.f k l0 a1).bind fun bt254 => (some (bt254.1, bt254.2))
theorem item_place.mono : ∀ a0 a1 k, LeO (item_place.f k a0 a1) (item_place.f (k + 1) a0 a1) := by
 intro a0 a1 k
 unfold item_place.f
 repeat' first
   | (with_reducible exact slices_BinarySearchFunc_api_Item_api_Item_string_fn95.mono _ _ _)
   | (with_reducible exact LeO.refl _)
   | (with_reducible exact LeO.none _)
   | (with_reducible refine LeO.ite ?_ ?_)
   | (with_reducible refine LeO.bind ?_ (fun _ => ?_))
   | exact slices_BinarySearchFunc_api_Item_api_Item_string_fn95.mono _ _ _
   | exact LeO.none _
   | refine LeO.ite ?_ ?_
   | refine LeO.bind ?_ (fun _ => ?_)
set_option maxHeartbeats 8000000 in
set_option maxRecDepth 100000 in
theorem item_place.calls (k : Nat) (A0 : Option Addr) (c0 : Nat) (l0 : List (S77)) (a1 : ByteArray) (r1 : Int) (r2 : Bool) (w : World) (hr0 : Kd.C k77 w A0 l0.length l0) (hc0 : l0.length ≤ c0) (h : item_place.f k l0 a1 = some (r1, r2)) :
  Calls Tryz.prog 65 #[.slice A0 l0.length c0, .string a1] w fun e w' => e = .returned (.tuple #[.int .i64 r1, .bool r2]) ∧ Below w.heap.size w w' := by
 have HR0 := ak_ hr0
 have HC0 := ak_ hc0
 clear hr0 hc0
 have HB := ak_ (Below.refl w.heap.size w)
 have H : ((slices_BinarySearchFunc_api_Item_api_Item_string_fn95.f k l0 a1).bind fun bt254 => (some (bt254.1, bt254.2))) = some (r1, r2) := h
 clear h
 replace H := Option.bind_eq_some_iff.mp H
 obtain ⟨⟨t254, t255⟩, A30, H⟩ := H
 replace H : (some (t254, t255)) = some (r1, r2) := H
 have A3 := ak_ A30
 clear A30
 simp only [Option.some.injEq, Prod.mk.injEq] at H
 obtain ⟨rfl, rfl⟩ := H
 go_enter Tryz.func65, Tryz.ntmps65
 go_wp2_with (first | ((with_reducible refine gate_callee (f := 94) rfl ?_); refine gl_ (some 8) Tryz.func94 #[.slice A0 l0.length c0, .string a1, .func (.func 95) #[] #[]] ?_; (with_reducible refine (slices_BinarySearchFunc_api_Item_api_Item_string_fn95.calls k _ _ l0 a1 t254 t255 _ ?side1 ?side2 A3.out).mono ?_); (case side1 => repeat (first | exact HR0.out | (with_reducible refine Kd.C_alloc ?_ _) | (with_reducible refine Kd.C_drewN ?_ _) | (with_reducible refine Kd.C_drew ?_))); (case side2 => exact HC0.out); rintro e w4 ⟨rfl, hb⟩; refine ⟨_, rfl, ?_⟩; replace HB := hb_ hb; (try clear hb); (try clear hb2); (try clear hk); (try clear hi)))
 go_ret2
 exact ⟨by first | rfl | (simp [errW_none, errW_some] <;> rfl) | (simp [*, errW_none, errW_some] <;> rfl), bel_⟩
end Go.Proofs.YtfkofbabeghgkaaGreat.Z
end

section
namespace Go.Proofs.YtfkofbabeghgkaaGreat.Z
theorem info_Item : (Tryz.prog.info? 77).map (fun i => (i.zero, i.size, i.bytes)) = some (some (.agg #[.string ⟨#[]⟩, .string ⟨#[]⟩]), 2, 32) := by kernel_rfl
theorem k77_KM {w : World} {base : Nat} {ok : Nat → Prop} {x : S77} {cs : List Value} (h : k77.K w x cs) : k77.M w base ok x cs := by
  obtain rfl := k77_open h
  exact k77_mkM _ _ _ _
theorem k77_E : k77.E = [] := rfl
theorem k77_sz : k77.sz = 2 := rfl
def slices_Clone_api_Item_api_Item.f (l0 : List S77) : Option (List S77) := if l0.length * 32 ≤ 140737488355328 then some l0 else none
set_option maxRecDepth 100000 in
set_option maxHeartbeats 2000000 in
theorem slices_Clone_api_Item_api_Item.calls (A0 : Option Addr) (c0 : Nat) (l0 : List S77) (r : List S77) (w : World) (hr0 : Kd.C k77 w A0 l0.length l0) (hc0 : l0.length ≤ c0) (h : slices_Clone_api_Item_api_Item.f l0 = some r) :
    Calls Tryz.prog 64 #[.slice A0 l0.length c0] w fun e w' => ∃ v0_ : Value, e = .returned (v0_) ∧ Kd.R k77 77 w' w.heap.size (fun _ => True) v0_ r ∧ Below w.heap.size w w' := by
  unfold slices_Clone_api_Item_api_Item.f at h
  split at h
  case isFalse => cases h
  case isTrue hbig =>
    obtain rfl := Option.some.inj h
    have q22 : ∀ (w : World) (a : Option Addr) (n c n' c' : Nat), (binOp .eql 22 (.slice a n c) (.slice none n' c')).run Tryz.prog w = .ok (.bool a.isNone) w := fun w a n c n' c' => Lib.run_eql_slice_nil w _ _ a n c n' c' Tryz.underlying22
    have hmx := Kd.C_max hr0
    cases A0 with
    | none =>
      have hl : l0 = [] := by
        rcases Nat.eq_zero_or_pos l0.length with h0 | h0
        · exact List.eq_nil_of_length_eq_zero h0
        · obtain ⟨ad, _, he, _⟩ := C_cells hr0 h0; cases he
      subst hl
      clear hr0 hbig
      go_enter Tryz.func64, Tryz.ntmps64
      go_wp2
      go_ret
      exact ⟨_, rfl, Kd.R_nil _ _ _ _ _, Below.refl _ _⟩
    | some ad =>
      obtain ⟨i0, hi, hz0, hz1, hz2⟩ := info_parts info_Item
      obtain ⟨inner, hrep, hcell⟩ : ∃ inner, Reps (k77.K w) k77.sz l0 inner ∧ ∀ j u, inner[j]? = some u → w.cell? (ad.add j) = some u := by
        rcases Nat.eq_zero_or_pos l0.length with h0 | h0
        · have hl : l0 = [] := List.eq_nil_of_length_eq_zero h0
          subst hl; exact ⟨[], Reps.none _ _, fun j u hu => by simp at hu⟩
        · obtain ⟨ad2, inner, he, h1, h2⟩ := C_cells hr0 h0
          injection he with he; subst he; exact ⟨inner, h1, h2⟩
      have hrepM : ∀ w' base ok, Reps (k77.M w' base ok) k77.sz l0 inner := fun w' base ok => hrep.imp_ (fun _ _ hk => flat_M (base := base) k77_E (k77_KM (base := base) (ok := ok) hk))
      have hone := flat_one (hrepM w 0 (fun _ => True)) (by decide)
      have hil : inner.length = l0.length * 2 := hrep.1
      have HC := ak_ hcell
      have HM := ak_ hrepM
      have HI := ak_ hil
      have HO := ak_ hone
      clear hr0 hrep hcell hrepM hil hone
      go_enter Tryz.func64, Tryz.ntmps64
      go_wp2_with (at_builtin; refine wpList_append_own _ rfl _ _ 22 rfl w.heap.size 77 i0 _ 2 32 Tryz.underlying22 hi hz0 hz1 hz2 (by rfl) (by decide) _ _ _ rfl (World.ownsRow_made w #[] 0 (Nat.le_refl _) (Nat.zero_le _) (by simp)) ad l0.length c0 inner rfl ?qc1 ?qc2 ?qc3 ?qc4 ?qc5 ?qc6 ?_)
      case qc1 => exact HI.out
      case qc2 => intro j u hj; exact Lib.cell?_alloc_some _ (HC.out j u hj)
      case qc3 => exact HO.out
      case qc4 => unfold maxLen; omega
      intro v' w1 hown hgrow hnil
      go_wp2
      go_ret
      refine ⟨v', rfl, ⟨fun _ _ => trivial, inner, hown, ?_⟩, ((Below.refl _ w).alloc (Nat.le_refl _) _).grown hgrow (by simp) (by intro k hk; simp [Value.ownBlock] at hk; omega)⟩
      exact HM.out _ _ _
def slices_Delete_api_Item_api_Item.f (l0 : List S77) (a1 a2 : Int) : Option (List S77) := if 0 ≤ a1 ∧ a1 < l0.length ∧ a2 = a1 + 1 then some (l0.take a1.toNat ++ l0.drop (a1.toNat + 1)) else none
theorem take_cut {α : Type} (l : List α) (a b : Nat) (mid : List α) (tl : List α) (h : a ≤ l.length) (hm : mid.length = b) (n : Nat) (hn : n = a + b) : (l.take a ++ mid ++ tl).take n = l.take a ++ mid := by
  subst hn
  rw [List.take_append_of_le_length (by rw [List.length_append, List.length_take]; omega), List.take_of_length_le (by rw [List.length_append, List.length_take]; omega)]
set_option maxRecDepth 100000 in
set_option maxHeartbeats 4000000 in
theorem slices_Delete_api_Item_api_Item.calls (P0_ : Nat → Prop) (u9000_ : Value) (l0 : List S77) (a1 a2 : Int) (r : List S77) (w0 w : World) (hB : Below w0.heap.size w0 w) (ho0 : Kd.R k77 77 w w0.heap.size P0_ u9000_ l0) (h : slices_Delete_api_Item_api_Item.f l0 a1 a2 = some r) :
    Calls Tryz.prog 66 #[u9000_, .int .i64 a1, .int .i64 a2] w fun e w' => ∃ v0_ : Value, e = .returned (v0_) ∧ Kd.R k77 77 w' w0.heap.size (fun k_ => (P0_ k_ ∨ w.heap.size ≤ k_)) v0_ r ∧ Below w0.heap.size w0 w' ∧ Kept w w' (fun k_ => P0_ k_) := by
  unfold slices_Delete_api_Item_api_Item.f at h
  split at h
  case isFalse => cases h
  case isTrue hh =>
    obtain ⟨h1, h2, rfl⟩ := hh
    obtain rfl := Option.some.inj h
    clear h
    obtain ⟨i, rfl⟩ : ∃ i : Nat, a1 = i := ⟨a1.toNat, (Int.toNat_of_nonneg h1).symm⟩
    obtain ⟨g, cap, cur, inner, rfl, hbg, hok, hg, hnc, hcm, hsz, hil, hti, hrep⟩ := R_row k77_E ho0 (by omega)
    rw [k77_sz] at hsz hil hti
    obtain ⟨m, hn0⟩ : ∃ m, l0.length = i + m + 1 := ⟨l0.length - 1 - i, by omega⟩
    obtain ⟨n, hnm⟩ : ∃ n, n = i + m := ⟨_, rfl⟩
    have hn : l0.length = n + 1 := by omega
    have hin : i ≤ n := by omega
    rw [Int.toNat_natCast]
    have hcur : cur.toList.length = cap * 2 := by rw [Array.length_toList]; exact hsz
    unfold maxLen at hcm
    -- what stands behind it
    obtain ⟨news, hnews⟩ : ∃ news, news = inner.drop ((i + 1) * 2) := ⟨_, rfl⟩
    have hnl : news.length = (n - i) * 2 := by rw [hnews, List.length_drop, hil]; omega
    have hone : ∀ u ∈ news, u.oneCell' = true := fun u hu => flat_one (hrep w P0_) (by decide) u (by rw [hnews] at hu; exact List.mem_of_mem_drop hu)
    have hsrc : ∀ j u, news[j]? = some u → cur.toList[(i + 1) * 2 + j]? = some u := by
      intro j u hu
      rw [hnews, ← hti, List.getElem?_drop, List.getElem?_take] at hu
      split at hu
      · exact hu
      · cases hu
    have hgd : w.drew.heap[g]? = some (.cells cur 77 (0, 0)) := hg
    obtain ⟨cur1, hg1, hs1, ht1⟩ := setCells_row news (i * 2) w.drew cur hgd (by rw [hsz]; omega)
    obtain ⟨W1, hW1⟩ : ∃ W1, W1 = w.drew.setCells g (i * 2) news := ⟨_, rfl⟩
    rw [← hW1] at hg1
    have hz : (Builtin.zeroCells (Value.agg #[.string ⟨#[]⟩, .string ⟨#[]⟩]).cells 1).toList.length = 2 := by rw [Array.length_toList, size_zeroCells]; rfl
    obtain ⟨cur2, hg2, hs2, ht2⟩ := setCells_row (Builtin.zeroCells (Value.agg #[.string ⟨#[]⟩, .string ⟨#[]⟩]).cells 1).toList (n * 2) W1 cur1 hg1 (by rw [hz, hs1, hsz]; omega)
    obtain ⟨i0, hi, hz0, hz1, hz2⟩ := info_parts info_Item
    have hzero : ∀ w, (zeroValue 77).run Tryz.prog w = .ok (.agg #[.string ⟨#[]⟩, .string ⟨#[]⟩]) w := fun w => by simp [zeroValue, typeInfo, hi, hz0]
    have hclear := run_clear_k W1 22 77 0 (.agg #[.string ⟨#[]⟩, .string ⟨#[]⟩]) Tryz.underlying22 hzero (by decide) g (n * 2) 1 (cap - n) (by decide)
      (fun j hj => by rw [show (Value.agg #[.string ⟨#[]⟩, .string ⟨#[]⟩]).cells.size = 2 from rfl] at hj; exact row_some hg1 _ (by rw [hs1, hsz]; omega)) (fun j hj => blk_frozen hg1 _)
    obtain ⟨W2, hW2⟩ : ∃ W2, W2 = W1.setCells g (n * 2) (Builtin.zeroCells (Value.agg #[.string ⟨#[]⟩, .string ⟨#[]⟩]).cells 1).toList := ⟨_, rfl⟩
    rw [← hW2] at hclear hg2
    -- the end
    have hend : Kd.R k77 77 W2 w0.heap.size (fun k_ => (P0_ k_ ∨ w.heap.size ≤ k_)) (.slice (some ⟨g, 0, none⟩) n cap) (l0.take i ++ l0.drop (i + 1)) ∧ Below w0.heap.size w0 W2 ∧ Kept w W2 (fun k_ => P0_ k_) := by
      have hl : (l0.take i ++ l0.drop (i + 1)).length = n := by rw [List.length_append, List.length_take, List.length_drop]; omega
      refine ⟨?_, ?_, ?_⟩
      · have hR := R_of_row (d := k77) (e := 77) (base := w0.heap.size) (ok := fun k_ => (P0_ k_ ∨ w.heap.size ≤ k_)) (w := W2) (xs := l0.take i ++ l0.drop (i + 1)) (cap := cap) (inner := inner.take (i * 2) ++ news) hbg (.inl hok) hg2 (by omega) (by unfold maxLen; omega) (by rw [k77_sz, hs2, hs1, hsz])
          (by rw [k77_sz, hl, List.length_append, List.length_take, hnl, hil]; omega)
          (by
            rw [k77_sz, hl, ht2, ht1, List.append_assoc, List.append_assoc]
            have e1 : (cur.toList.take (i * 2) ++ (news ++ cur.toList.drop (i * 2 + news.length))).take (n * 2) = inner.take (i * 2) ++ news := by
              rw [← List.append_assoc, take_cut _ (i * 2) news.length _ _ (by omega) rfl (n * 2) (by omega), ← hti, List.take_take, Nat.min_eq_left (by omega)]
            rw [List.take_append_of_le_length (by rw [List.length_take, List.length_append, List.length_take, List.length_append, List.length_drop]; omega), List.take_take, Nat.min_self, e1])
          (fun ok' => by
            refine Kd.reps_append ?_ ?_
            · exact Kd.reps_take (hrep W2 ok') (by omega)
            · rw [hnews]; exact Kd.reps_drop (hrep W2 ok'))
        rw [hl] at hR
        exact hR
      · rw [hW2, hW1]
        exact below_setCells (below_setCells (below_drew hB) hbg _ _) hbg _ _
      · rw [hW2, hW1]
        exact kept_setCells (kept_setCells ((Kept.refl w _).drew) (.inl hok) _ _) (.inl hok) _ _
    have hsT : ∀ W : World, (sizeOf 77).run Tryz.prog W = .ok 2 W := fun W => by simp [sizeOf, typeInfo, hi, hz1]
    obtain ⟨ad, hcutB, had⟩ : ∃ ad : Addr, (∀ W : World, (Instr.slice 22 (.slice (some ⟨g, 0, none⟩) (i + m + 1) cap) (some (.int .i64 ((i : Int) + 1))) none none).run Tryz.prog W = .ok (.slice (some ad) m (cap - (i + 1))) W) ∧ ∀ j u, news[j]? = some u → w.drew.cell? (ad.add j) = some u := by
      have hel : Tryz.prog.elem 22 = 77 := by simp [Program.elem, Tryz.underlying22]
      have hu : Tryz.prog.underlying 22 = some (.slice (Tryz.prog.elem 22)) := by rw [hel]; exact Tryz.underlying22
      have hrun : ∀ W : World, (Instr.slice 22 (.slice (some ⟨g, 0, none⟩) (i + m + 1) cap) (some (.int .i64 ((i : Int) + 1))) none none).run Tryz.prog W = .ok (sliced (some ⟨g, 0, none⟩) (i + 1) (i + m + 1) cap 2) W := fun W => by
        rw [run_slice_l W 22 (some ⟨g, 0, none⟩) (i + m + 1) cap hu .i64 ((i : Int) + 1) (by omega) (by omega), hel]
        have : ((i : Int) + 1).toNat = i + 1 := by omega
        simp [hsT, Result.andThen, this]
      by_cases hc : cap = i + 1
      · refine ⟨⟨g, 0, none⟩, fun W => ?_, fun j u hu => ?_⟩
        · rw [hrun W]; unfold sliced; rw [if_pos hc, show i + m + 1 - (i + 1) = m by omega]
        · have := (List.getElem?_eq_some_iff.1 hu).1; omega
      · refine ⟨⟨g, (i + 1) * 2, none⟩, fun W => ?_, fun j u hu => ?_⟩
        · rw [hrun W]; unfold sliced; rw [if_neg hc, show i + m + 1 - (i + 1) = m by omega]; simp [Addr.add]
        · rw [add_at]
          show w.cell? _ = _
          rw [row_cell hg]
          exact hsrc j u hu
    have hcutA : ∀ W : World, (Instr.slice 22 (.slice (some ⟨g, 0, none⟩) (i + m + 1) cap) none (some (.int .i64 (i : Int))) none).run Tryz.prog W = .ok (.slice (some ⟨g, 0, none⟩) i cap) W := fun W => by
      have hel : Tryz.prog.elem 22 = 77 := by simp [Program.elem, Tryz.underlying22]
      have hu : Tryz.prog.underlying 22 = some (.slice (Tryz.prog.elem 22)) := by rw [hel]; exact Tryz.underlying22
      rw [run_slice_h W 22 (some ⟨g, 0, none⟩) (i + m + 1) cap hu .i64 (i : Int) (by omega) (by omega), hel]
      simp [hsT, Result.andThen, sliced, Addr.add]
    have hcutC : ∀ W : World, (Instr.slice 22 (.slice (some ⟨g, 0, none⟩) (i + m) cap) (some (.int .i64 ((i : Int) + (m : Int)))) (some (.int .i64 ((i : Int) + (m : Int) + 1))) none).run Tryz.prog W = .ok (.slice (some ⟨g, n * 2, none⟩) 1 (cap - n)) W := fun W => by
      have hel : Tryz.prog.elem 22 = 77 := by simp [Program.elem, Tryz.underlying22]
      have hu : Tryz.prog.underlying 22 = some (.slice (Tryz.prog.elem 22)) := by rw [hel]; exact Tryz.underlying22
      rw [run_slice_lh W 22 (some ⟨g, 0, none⟩) (i + m) cap hu .i64 .i64 ((i : Int) + (m : Int)) ((i : Int) + (m : Int) + 1) (by omega) (by omega) (by omega), hel]
      have e1 : ((i : Int) + (m : Int)).toNat = i + m := by omega
      have e2 : ((i : Int) + (m : Int) + 1).toNat = i + m + 1 := by omega
      have e3 : ¬ (cap = i + m) := by omega
      simp [hsT, Result.andThen, sliced, Addr.add, e1, e2, e3, hnm]
      intro h0; omega
    have hspare : ∀ j, j < news.length → (w.drew.cell? ⟨g, 0 + i * 2 + j, none⟩).isSome = true ∧ w.drew.frozen? ⟨g, 0 + i * 2 + j, none⟩ = false := fun j hj =>
      ⟨row_some hgd _ (by rw [hsz]; omega), blk_frozen hgd _⟩
    have hb1 : (i : Int) + 1 ≤ (i : Int) + (m : Int) + 1 := by omega
    have hb2 : (i : Int) + (m : Int) + 1 ≤ (cap : Int) := by omega
    have hb3 : ((i : Int) == (i : Int) + 1) = false := by rw [beq_eq_false_iff_ne]; omega
    have hnl2 : news.length = m * 2 := by rw [hnl]; omega
    have hroom : i + m ≤ cap := by omega
    have HADD := ak_ had
    rw [hnm, hW1] at hclear
    rw [hW2, hW1, hnm] at hend
    have HEND := ak_ hend
    have HCL := ak_ hclear
    have HONE := ak_ hone
    have HSP := ak_ hspare
    rw [hn0]
    clear hclear had hone hspare hend hrep ho0 hB ht2 hg2 hs2 ht1 hil hti hnews hn hsrc hcur hs1 hz hg hgd hg1 hnl
    go_enter Tryz.func66, Tryz.ntmps66
    go_wp2
    go_region_law (refine step_append_room rfl _ _ 22 rfl 77 i0 2 Tryz.underlying22 hi hz1 g 0 i cap (by simp [Act.eval, Act.put]) ad m (cap - (i + 1)) news (by simp [Act.eval, Act.put]) hnl2 HADD.out HONE.out hroom HSP.out ?_)
    go_wp2
    rw [HCL.out]
    go_wp2
    go_ret
    exact ⟨_, rfl, HEND.out⟩
def slices_Insert_api_Item_api_Item.f (l0 : List S77) (a1 : Int) (l2 : List S77) : Option (List S77) := if 0 ≤ a1 ∧ a1 ≤ l0.length ∧ l2.length = 1 ∧ (l0.length + 1) * 32 ≤ 140737488355328 then some (l0.take a1.toNat ++ l2 ++ l0.drop a1.toNat) else none
set_option maxRecDepth 100000 in
set_option maxHeartbeats 4000000 in
theorem ins_end (P0_ : Nat → Prop) (u : Value) (l0 l2 : List S77) (vb c2 : Nat) (vs : List Value) (w0 w : World) (hB : Below w0.heap.size w0 w) (ho0 : Kd.R k77 77 w w0.heap.size P0_ u l0)
    (hvl : vs.length = 1 * 2) (hl2 : l2.length = 1) (hvc : ∀ j x, vs[j]? = some x → w.cell? ⟨vb, j, none⟩ = some x) (h1v : ∀ x ∈ vs, x.oneCell' = true) (hvM : ∀ w' ok, Reps (k77.M w' w0.heap.size ok) k77.sz l2 vs) (hbig : (l0.length + 1) * 32 ≤ 140737488355328) :
    Calls Tryz.prog 67 #[u, .int .i64 (l0.length : Int), .slice (some ⟨vb, 0, none⟩) 1 c2] w fun e w' => ∃ v0_ : Value, e = .returned (v0_) ∧ Kd.R k77 77 w' w0.heap.size (fun k_ => (P0_ k_ ∨ w.heap.size ≤ k_)) v0_ (l0 ++ l2) ∧ Below w0.heap.size w0 w' ∧ Kept w w' (fun k_ => P0_ k_) := by
  obtain ⟨i0, hi, hz0, hz1, hz2⟩ := info_parts info_Item
  obtain ⟨h0, inner, hown, hrep⟩ := ho0
  have hlow := hB.size
  have HOWN := ak_ hown
  have HVC := ak_ hvc
  have H1V := ak_ h1v
  have HL := ak_ hlow
  have HREP : Aside0 (∀ w' ok, Reps (k77.M w' w0.heap.size ok) k77.sz (l0 ++ l2) (inner ++ vs)) := ⟨fun w' ok => Kd.reps_append (hrep.imp_ (fun _ _ hm => flat_M k77_E hm)) (hvM w' ok)⟩
  have H0 := ak_ h0
  have HB := ak_ hB
  have fin : ∀ v' w1, w1.ownsRow w0.heap.size 77 2 v' (l0.length + 1) (inner ++ vs) → w.grownBy w1 u.ownBlock → (v'.ownBlock = u.ownBlock ∨ v'.ownBlock = some w.heap.size) →
      Kd.R k77 77 w1 w0.heap.size (fun k_ => (P0_ k_ ∨ w.heap.size ≤ k_)) v' (l0 ++ l2) ∧ Below w0.heap.size w0 w1 ∧ Kept w w1 (fun k_ => P0_ k_) := by
    intro v' w1 ho hg hat
    have hb : ∀ k, u.ownBlock = some k → w0.heap.size ≤ k := fun k hk => by
      rcases HOWN.out.2 with ⟨rfl, _⟩ | ⟨g, cap, cur, rfl, hbg, _⟩
      · cases hk
      · have : g = k := by simpa [Value.ownBlock] using hk
        omega
    refine ⟨⟨fun k hk => ?_, inner ++ vs, ?_, HREP.out _ _⟩, HB.out.grown hg HL.out hb, Kept.of_grown hg (Kept.refl _ _) (fun k hk => .inl (H0.out k hk))⟩
    · rcases hat with hat | hat
      · exact .inl (H0.out k (hat ▸ hk))
      · rw [hat] at hk; injection hk with hk; exact .inr (by omega)
    · rw [List.length_append, hl2]; exact ho
  have FIN := ak_ fin
  have hb1 : (l0.length : Int) = (l0.length : Int) := rfl
  have hmx : l0.length ≤ maxLen := by unfold maxLen; omega
  unfold maxLen at hmx
  clear hvc h1v hlow fin
  rcases hown with ⟨hl, ⟨rfl, hn⟩ | ⟨g, cap, cur, rfl, hbg, hg, hnc, hcm, hsz, ht⟩⟩
  · rw [hn] at HOWN FIN hbig ⊢
    clear hl hrep
    go_enter Tryz.func67, Tryz.ntmps67
    go_wp2_with (at_builtin; refine wpList_append_own_at _ rfl _ _ 22 rfl w0.heap.size 77 i0 _ 2 32 Tryz.underlying22 hi hz0 hz1 hz2 (by rfl) (by decide) _ _ _ rfl HOWN.out ⟨vb, 0, none⟩ 1 c2 vs rfl ?qc1 ?qc2 ?qc3 ?qc4 ?qc5 ?qc6 ?_)
    case qc2 => exact HVC.out
    case qc3 => exact H1V.out
    case qc4 => unfold maxLen; omega
    case qc6 => exact HL.out
    intro v' w1 ho hg hn hat
    have ho' : w1.ownsRow w0.heap.size 77 2 v' (0 + 1) (inner ++ vs) := ho
    have HR := ak_ (FIN.out v' w1 ho' hg hat)
    clear ho hg hn hat ho'
    go_wp2
    go_ret
    exact ⟨_, rfl, HR.out⟩
  · unfold maxLen at hcm
    clear hl hrep ht hg hsz hbg
    by_cases hc : cap = l0.length
    · subst hc
      go_enter Tryz.func67, Tryz.ntmps67
      go_wp2_with (at_builtin; refine wpList_append_own_at _ rfl _ _ 22 rfl w0.heap.size 77 i0 _ 2 32 Tryz.underlying22 hi hz0 hz1 hz2 (by rfl) (by decide) _ _ _ rfl HOWN.out ⟨vb, 0, none⟩ 1 c2 vs rfl ?qd1 ?qd2 ?qd3 ?qd4 ?qd5 ?qd6 ?_)
      case qd2 => exact HVC.out
      case qd3 => exact H1V.out
      case qd4 => unfold maxLen; omega
      case qd6 => exact HL.out
      intro v' w1 ho hg hn hat
      have HR := ak_ (FIN.out v' w1 ho hg hat)
      clear ho hg hn hat
      go_wp2
      go_ret
      exact ⟨_, rfl, HR.out⟩
    · go_enter Tryz.func67, Tryz.ntmps67
      go_wp2_with (at_builtin; refine wpList_append_own_at _ rfl _ _ 22 rfl w0.heap.size 77 i0 _ 2 32 Tryz.underlying22 hi hz0 hz1 hz2 (by rfl) (by decide) _ _ _ rfl HOWN.out ⟨vb, 0, none⟩ 1 c2 vs rfl ?qe1 ?qe2 ?qe3 ?qe4 ?qe5 ?qe6 ?_)
      case qe2 => exact HVC.out
      case qe3 => exact H1V.out
      case qe4 => unfold maxLen; omega
      case qe6 => exact HL.out
      intro v' w1 ho hg hn hat
      have HR := ak_ (FIN.out v' w1 ho hg hat)
      clear ho hg hn hat
      go_wp2
      go_ret
      exact ⟨_, rfl, HR.out⟩
theorem ins_cut (cur cur1 cur2 inner vs news : List Value) (i n : Nat) (hti : cur.take (n * 2) = inner) (hn : i < n) (hl : (n + 1) * 2 ≤ cur.length) (hv : vs.length = 2) (hnl : news.length = (n - i) * 2)
    (ht1 : cur1 = cur.take ((i + 1) * 2) ++ news ++ cur.drop ((i + 1) * 2 + news.length)) (ht2 : cur2 = cur1.take (i * 2) ++ vs ++ cur1.drop (i * 2 + vs.length)) : cur2.take ((n + 1) * 2) = inner.take (i * 2) ++ vs ++ news := by
  have e1 : cur1.take (i * 2) = inner.take (i * 2) := by
    rw [ht1, List.append_assoc, List.take_append_of_le_length (by rw [List.length_take]; omega), List.take_take, Nat.min_eq_left (by omega), ← hti, List.take_take, Nat.min_eq_left (by omega)]
  have e2 : cur1.drop (i * 2 + vs.length) = news ++ cur.drop ((i + 1) * 2 + news.length) := by
    rw [ht1, List.append_assoc]
    exact List.drop_left' (by rw [List.length_take]; omega)
  rw [ht2, e1, e2, ← List.append_assoc]
  refine List.take_left' ?_
  have : inner.length = n * 2 := by rw [← hti, List.length_take]; omega
  simp only [List.length_append, List.length_take, hv, hnl]
  omega
theorem mid_len {α : Type} (l l2 : List α) (i : Nat) (hi : i ≤ l.length) (h2 : l2.length = 1) : (l.take i ++ l2 ++ l.drop i).length = l.length + 1 := by
  simp only [List.length_append, List.length_take, List.length_drop, h2]; omega
set_option maxRecDepth 100000 in
set_option maxHeartbeats 4000000 in
theorem ins_room (P0_ : Nat → Prop) (l0 l2 : List S77) (vb c2 g cap i : Nat) (cur curv : Array Value) (inner vs : List Value) (w0 w : World) (hB : Below w0.heap.size w0 w)
    (hbg : w0.heap.size ≤ g) (hok : P0_ g) (hg : w.heap[g]? = some (.cells cur 77 (0, 0))) (hcm : cap ≤ maxLen) (hsz : cur.size = cap * 2) (hil : inner.length = l0.length * 2) (hti : cur.toList.take (l0.length * 2) = inner)
    (hrep : ∀ w' ok', Reps (k77.M w' w0.heap.size ok') k77.sz l0 inner) (hin : i < l0.length) (hroom : l0.length + 1 ≤ cap) (hvb : vb ≠ g) (hvg : w.heap[vb]? = some (.cells curv 77 (0, 0))) (hl2 : l2.length = 1)
    (hvl : vs.length = 2) (hvc : ∀ j x, vs[j]? = some x → w.cell? ⟨vb, j, none⟩ = some x) (h1v : ∀ x ∈ vs, x.oneCell' = true) (hvM : ∀ w' ok, Reps (k77.M w' w0.heap.size ok) k77.sz l2 vs) :
    Calls Tryz.prog 67 #[.slice (some ⟨g, 0, none⟩) l0.length cap, .int .i64 (i : Int), .slice (some ⟨vb, 0, none⟩) 1 c2] w fun e w' => ∃ v0_ : Value, e = .returned (v0_) ∧ Kd.R k77 77 w' w0.heap.size (fun k_ => (P0_ k_ ∨ w.heap.size ≤ k_)) v0_ (l0.take i ++ l2 ++ l0.drop i) ∧ Below w0.heap.size w0 w' ∧ Kept w w' (fun k_ => P0_ k_) := by
  obtain ⟨i0, hi, hz0, hz1, hz2⟩ := info_parts info_Item
  obtain ⟨n, hn⟩ : ∃ n, n = l0.length := ⟨_, rfl⟩
  have hsT : ∀ W : World, (sizeOf 77).run Tryz.prog W = .ok 2 W := fun W => by simp [sizeOf, typeInfo, hi, hz1]
  have hsm : (Tryz.prog.info? 77).map (·.size) = some 2 := by rw [hi]; simp [hz1]
  have hlen := mid_len l0 l2 i (by omega) hl2
  rw [← hn] at hil hti hin hroom hlen ⊢
  unfold maxLen at hcm
  obtain ⟨news, hnews⟩ : ∃ news, news = inner.drop (i * 2) := ⟨_, rfl⟩
  have hnl : news.length = (n - i) * 2 := by rw [hnews, List.length_drop, hil]; omega
  have hone : ∀ u ∈ news, u.oneCell' = true := fun u hu => flat_one (hrep w P0_) (by decide) u (by rw [hnews] at hu; exact List.mem_of_mem_drop hu)
  have hsrc : ∀ j u, news[j]? = some u → cur.toList[i * 2 + j]? = some u := by
    intro j u hu
    rw [hnews, ← hti, List.getElem?_drop, List.getElem?_take] at hu
    split at hu
    · exact hu
    · cases hu
  have hgd : w.drew.heap[g]? = some (.cells cur 77 (0, 0)) := hg
  obtain ⟨cur1, hg1, hs1, ht1⟩ := setCells_row news ((i + 1) * 2) w.drew cur hgd (by rw [hsz]; omega)
  obtain ⟨cur2, hg2, hs2, ht2⟩ := setCells_row vs (i * 2) (w.drew.setCells g ((i + 1) * 2) news) cur1 hg1 (by rw [hs1, hsz]; omega)
  have hend : Kd.R k77 77 ((w.drew.setCells g ((i + 1) * 2) news).setCells g (i * 2) vs) w0.heap.size (fun k_ => (P0_ k_ ∨ w.heap.size ≤ k_)) (.slice (some ⟨g, 0, none⟩) (n + 1) cap) (l0.take i ++ l2 ++ l0.drop i) ∧ Below w0.heap.size w0 ((w.drew.setCells g ((i + 1) * 2) news).setCells g (i * 2) vs) ∧ Kept w ((w.drew.setCells g ((i + 1) * 2) news).setCells g (i * 2) vs) (fun k_ => P0_ k_) := by
    refine ⟨?_, below_setCells (below_setCells (below_drew hB) hbg _ _) hbg _ _, kept_setCells (kept_setCells ((Kept.refl w _).drew) (.inl hok) _ _) (.inl hok) _ _⟩
    have hR := R_of_row (d := k77) (e := 77) (base := w0.heap.size) (ok := fun k_ => (P0_ k_ ∨ w.heap.size ≤ k_)) (xs := l0.take i ++ l2 ++ l0.drop i) (cap := cap) (inner := inner.take (i * 2) ++ vs ++ news) hbg (.inl hok) hg2 (by omega) (by unfold maxLen; omega) (by rw [k77_sz, hs2, hs1, hsz])
      (by rw [k77_sz, hlen, List.length_append, List.length_append, List.length_take, hnl, hvl, hil]; omega)
      (by rw [k77_sz, hlen]; exact ins_cut cur.toList cur1.toList cur2.toList inner vs news i n hti hin (by rw [Array.length_toList, hsz]; omega) hvl hnl ht1 ht2)
      (fun ok' => Kd.reps_append (Kd.reps_append (Kd.reps_take (hrep _ ok') (by omega)) (hvM _ ok')) (by rw [hnews]; exact Kd.reps_drop (hrep _ ok')))
    rw [hlen] at hR
    exact hR
  have hov : ∀ lb cb, (callFunc 97 #[.slice (some ⟨vb, 0, none⟩) 1 c2, .slice (some ⟨g, (i + 1) * 2, none⟩) lb cb]).run Tryz.prog w = .ok (.value (.bool false)) w := fun lb cb => by
    rw [run_callFunc_extern Tryz.func97 (by kernel_rfl) (by kernel_rfl) (by kernel_rfl) (e := Extern.SlicesOverlaps.overlaps #[22, 22] #[4]) (by kernel_rfl),
      Lib.run_overlaps_apart w 22 4 77 Tryz.underlying22 2 hsT ⟨vb, 0, none⟩ ⟨g, (i + 1) * 2, none⟩ 1 c2 lb cb hvb 77 77 curv.size cur.size (by simp [World.shape?, hvg]) (by simp [World.shape?, hg]) (by rw [hsz]; omega) (by simp [World.frozen?, hvg]) (by simp [World.frozen?, hvg])]
    rfl
  have hcp1 : ∀ ty dc sc, (Builtin.copy_ #[22, 22] ty #[.slice (some ⟨g, (i + 1) * 2, none⟩) (n - i) dc, .slice (some ⟨g, i * 2, none⟩) (n + 1 - i) sc]).run Tryz.prog w.drew = .ok (goInt (Nat.min (n + 1 - i) (n - i))) (w.drew.setCells g ((i + 1) * 2) news) := fun ty dc sc =>
    run_copy_k w.drew 22 22 ty 77 g ((i + 1) * 2) (n - i) dc ⟨g, i * 2, none⟩ (n + 1 - i) sc 2 news Tryz.underlying22 hsm (by rw [hnl]; simp only [Nat.min_def]; split <;> omega)
      (fun j v hj => by rw [add_at, row_cell hgd]; exact hsrc j v hj)
      (fun j hj => row_some hgd _ (by rw [hsz]; omega)) (fun j hj => blk_frozen hgd _) hone
  have hcp2 : ∀ ty dc, (Builtin.copy_ #[22, 22] ty #[.slice (some ⟨g, i * 2, none⟩) (n + 1 - i) dc, .slice (some ⟨vb, 0, none⟩) 1 c2]).run Tryz.prog (w.drew.setCells g ((i + 1) * 2) news) = .ok (goInt (Nat.min 1 (n + 1 - i))) ((w.drew.setCells g ((i + 1) * 2) news).setCells g (i * 2) vs) := fun ty dc =>
    run_copy_k _ 22 22 ty 77 g (i * 2) (n + 1 - i) dc ⟨vb, 0, none⟩ 1 c2 2 vs Tryz.underlying22 hsm (by rw [hvl]; simp only [Nat.min_def]; split <;> omega)
      (fun j v hj => by
        have := hvc j v hj
        rw [add_at, Nat.zero_add, World.cell?_of_block (w := w)]
        · exact this
        · exact setCells_far news _ vb (fun e => hvb e))
      (fun j hj => row_some hg1 _ (by rw [hs1, hsz]; omega)) (fun j hj => blk_frozen hg1 _) h1v
  have HEND := ak_ hend
  have HCA := ak_ hcp1
  have HCB := ak_ hcp2
  have hw1 : IntKind.i64.wrap ((i : Int) + 1) = (i : Int) + 1 := by rw [IntKind.wrap_i64]; omega
  have hw2 : IntKind.i64.wrap ((n : Int) + 1) = (n : Int) + 1 := by rw [IntKind.wrap_i64]; omega
  have hin2 : i ≤ n := by omega
  have htn : ((i : Int) + 1).toNat = i + 1 := by omega
  have htn2 : ((n : Int) + 1).toNat = n + 1 := by omega
  have hb2 : ¬ (cap = i + 1) := by omega
  have hb1 : (0 : Int) ≤ (i : Int) + 1 := by omega
  have hb5 : (i : Int) ≤ (n : Int) + 1 := by omega
  have hb3 : (i : Int) + 1 ≤ (n : Int) + 1 := by omega
  have hb4 : ¬ (cap = i) := by omega
  have hz2' : ¬ ((i : Int) = (n : Int)) := by omega
  have hz3 : ¬ ((cap : Int) < (n : Int) + 1) := by omega
  have mixed : Tryz.prog.follows .mixedOrders = true := by kernel_rfl
  clear hn
  clear hend hcp1 hcp2 hg2 hg1 hgd hs2 hs1 ht2 ht1 hsrc hone hnl hnews hrep hti hil hsz hg hvg hvc h1v hvM hB hvl hlen hl2
  go_enter Tryz.func67, Tryz.ntmps67
  go_wp2_with (simp only [hov])
  go_region_law_o (refine step_copy_run_ rfl _ _ 22 22 rfl (.slice (some ⟨g, (i + 1) * 2, none⟩) (n - i) (cap - (i + 1))) (.slice (some ⟨g, i * 2, none⟩) (n + 1 - i) (cap - i)) (by simp [Act.eval, Act.put]) (by simp [Act.eval, Act.put]) (HCA.out _ _ _) ?_)
  go_wp2
  rw [HCB.out]
  go_wp2
  go_ret
  exact ⟨_, rfl, HEND.out⟩
set_option maxRecDepth 100000 in
set_option maxHeartbeats 4000000 in
theorem ins_grow (P0_ : Nat → Prop) (l0 l2 : List S77) (vb c2 g cap i : Nat) (cur curv : Array Value) (inner vs : List Value) (w0 w : World) (hB : Below w0.heap.size w0 w)
    (hbg : w0.heap.size ≤ g) (hok : P0_ g) (hg : w.heap[g]? = some (.cells cur 77 (0, 0))) (hcm : cap ≤ maxLen) (hsz : cur.size = cap * 2) (hil : inner.length = l0.length * 2) (hti : cur.toList.take (l0.length * 2) = inner)
    (hrep : ∀ w' ok', Reps (k77.M w' w0.heap.size ok') k77.sz l0 inner) (hin : i < l0.length) (hnc : l0.length ≤ cap) (hroom : cap < l0.length + 1) (hbig : (l0.length + 1) * 32 ≤ 140737488355328) (hvb : vb ≠ g) (hvg : w.heap[vb]? = some (.cells curv 77 (0, 0))) (hl2 : l2.length = 1)
    (hvl : vs.length = 2) (hvc : ∀ j x, vs[j]? = some x → w.cell? ⟨vb, j, none⟩ = some x) (h1v : ∀ x ∈ vs, x.oneCell' = true) (hvM : ∀ w' ok, Reps (k77.M w' w0.heap.size ok) k77.sz l2 vs) :
    Calls Tryz.prog 67 #[.slice (some ⟨g, 0, none⟩) l0.length cap, .int .i64 (i : Int), .slice (some ⟨vb, 0, none⟩) 1 c2] w fun e w' => ∃ v0_ : Value, e = .returned (v0_) ∧ Kd.R k77 77 w' w0.heap.size (fun k_ => (P0_ k_ ∨ w.heap.size ≤ k_)) v0_ (l0.take i ++ l2 ++ l0.drop i) ∧ Below w0.heap.size w0 w' ∧ Kept w w' (fun k_ => P0_ k_) := by
  obtain ⟨i0, hi, hz0, hz1, hz2⟩ := info_parts info_Item
  obtain ⟨n, hn⟩ : ∃ n, n = l0.length := ⟨_, rfl⟩
  have hsT : ∀ W : World, (sizeOf 77).run Tryz.prog W = .ok 2 W := fun W => by simp [sizeOf, typeInfo, hi, hz1]
  have hsm : (Tryz.prog.info? 77).map (·.size) = some 2 := by rw [hi]; simp [hz1]
  have hlen := mid_len l0 l2 i (by omega) hl2
  rw [← hn] at hil hti hin hroom hlen hbig hnc ⊢
  unfold maxLen at hcm
  obtain ⟨news, hnews⟩ : ∃ news, news = inner.drop (i * 2) := ⟨_, rfl⟩
  have hnl : news.length = (n - i) * 2 := by rw [hnews, List.length_drop, hil]; omega
  have hone0 : ∀ u ∈ inner, u.oneCell' = true := flat_one (hrep w P0_) (by decide)
  have hone : ∀ u ∈ news, u.oneCell' = true := fun u hu => hone0 u (by rw [hnews] at hu; exact List.mem_of_mem_drop hu)
  have hsrc0 : ∀ (j : Nat) (u : Value), inner[j]? = some u → cur.toList[j]? = some u := by
    intro j u hu
    rw [← hti, List.getElem?_take] at hu
    split at hu
    · exact hu
    · cases hu
  have hsrc : ∀ (j : Nat) (u : Value), news[j]? = some u → cur.toList[i * 2 + j]? = some u := fun j u hu => hsrc0 _ u (by rwa [hnews, List.getElem?_drop] at hu)
  have hgb : g < w.heap.size := by
    rcases Nat.lt_or_ge g w.heap.size with h | h
    · exact h
    · rw [Array.getElem?_eq_none h] at hg; cases hg
  have hvbw : vb < w.heap.size := by
    rcases Nat.lt_or_ge vb w.heap.size with h | h
    · exact h
    · rw [Array.getElem?_eq_none h] at hvg; cases hvg
  have hgd : w.drew.heap[g]? = some (.cells cur 77 (0, 0)) := hg
  have hold : (Builtin.firstCells i0.size i (.slice (some ⟨g, 0, none⟩) i cap)).run Tryz.prog w.drew = .ok (inner.take (i * 2)).toArray w.drew := by
    rw [hz1]
    exact run_firstCells_some w.drew 2 i ⟨g, 0, none⟩ i cap (inner.take (i * 2)) (by rw [List.length_take]; omega) (fun j v hj => by
      rw [add_at, row_cell hgd, Nat.zero_add]
      rw [List.getElem?_take] at hj
      split at hj
      · exact hsrc0 j v hj
      · cases hj)
  have hkk : (n : Int) + 1 - (i : Int) = ((n + 1 - i : Nat) : Int) := by omega
  have hik : i + (n + 1 - i) = n + 1 := by omega
  obtain ⟨G, hG⟩ : ∃ G, G = grownCap w (n + 1) cap 77 := ⟨_, rfl⟩
  have hGn : n + 1 ≤ G := by rw [hG]; exact grownCap_ge w _ _ _
  have hG63 : G ≤ 9223372036854775807 := by
    have := grownCap_le_maxLen w (n + 1) cap 77 (by unfold maxLen; omega)
    rw [← hG] at this
    unfold maxLen at this
    omega
  obtain ⟨ROW, hROW⟩ : ∃ ROW : Array Value, ROW = (inner.take (i * 2)).toArray ++ Builtin.zeroCells (Value.agg #[.string ⟨#[]⟩, .string ⟨#[]⟩]).cells (n + 1 - i) ++ Builtin.zeroCells (Value.agg #[.string ⟨#[]⟩, .string ⟨#[]⟩]).cells (G - (n + 1)) := ⟨_, rfl⟩
  have hRs : ROW.size = G * 2 := by
    rw [hROW]
    simp only [Array.size_append, size_zeroCells, List.size_toArray, List.length_take, hil]
    rw [show (Value.agg #[.string ⟨#[]⟩, .string ⟨#[]⟩]).cells.size = 2 from rfl]
    omega
  have hrz : ∀ ty, (Builtin.append_ #[22, 3] ty #[.slice (some ⟨g, 0, none⟩) i cap, .int .i64 ((n : Int) + 1 - (i : Int))]).run Tryz.prog w =
      .ok (.slice (some ⟨w.heap.size, 0, none⟩) (n + 1) G) (w.drew.alloc (.cells ROW 77)) := fun ty => by
    have h := Go.Lib.run_append_grow_zeros w 22 3 ty 77 i0 _ .i64 .i64 Tryz.underlying22 Tryz.underlying3 hi hz0 (some ⟨g, 0, none⟩) i cap (inner.take (i * 2)) hold (n + 1 - i) (by omega) (by omega) (by omega) (by omega) (by rw [hz2]; omega) (by rw [hz2, hik]; exact growslice_fits hroom hbig)
    rw [hik] at h
    rw [hkk, h, ← hG, ← hROW]
  have hg0 : ((w.alloc (.cells ROW 77)).drew).heap[w.heap.size]? = some (.cells ROW 77 (0, 0)) := by
    show (w.heap.push _)[w.heap.size]? = _
    simp
  obtain ⟨cur1, hg1, hs1, ht1⟩ := setCells_row vs (i * 2) ((w.alloc (.cells ROW 77)).drew) ROW hg0 (by rw [hRs]; omega)
  obtain ⟨cur2, hg2, hs2, ht2⟩ := setCells_row news ((i + 1) * 2) (((w.alloc (.cells ROW 77)).drew).setCells w.heap.size (i * 2) vs).drew cur1 hg1 (by rw [hs1, hRs]; omega)
  have hlow := hB.size
  have hend : Kd.R k77 77 (((((w.alloc (.cells ROW 77)).drew).setCells w.heap.size (i * 2) vs).drew).setCells w.heap.size ((i + 1) * 2) news) w0.heap.size (fun k_ => (P0_ k_ ∨ w.heap.size ≤ k_)) (.slice (some ⟨w.heap.size, 0, none⟩) (n + 1) G) (l0.take i ++ l2 ++ l0.drop i) ∧ Below w0.heap.size w0 (((((w.alloc (.cells ROW 77)).drew).setCells w.heap.size (i * 2) vs).drew).setCells w.heap.size ((i + 1) * 2) news) ∧ Kept w (((((w.alloc (.cells ROW 77)).drew).setCells w.heap.size (i * 2) vs).drew).setCells w.heap.size ((i + 1) * 2) news) (fun k_ => P0_ k_) := by
    refine ⟨?_, below_setCells (below_drew (below_setCells (below_drew (below_alloc hB _)) hlow _ _)) hlow _ _, kept_setCells ((kept_setCells (((Kept.refl w _).alloc _).drew) (.inr (Nat.le_refl _)) _ _).drew) (.inr (Nat.le_refl _)) _ _⟩
    have hR := R_of_row (d := k77) (e := 77) (base := w0.heap.size) (ok := fun k_ => (P0_ k_ ∨ w.heap.size ≤ k_)) (xs := l0.take i ++ l2 ++ l0.drop i) (cap := G) (inner := inner.take (i * 2) ++ vs ++ news) hlow (.inr (Nat.le_refl _)) hg2 (by omega) (by unfold maxLen; omega) (by rw [k77_sz, hs2, hs1, hRs])
      (by rw [k77_sz, hlen, List.length_append, List.length_append, List.length_take, hnl, hvl, hil]; omega)
      (by
        rw [k77_sz, hlen, ht2]
        have e0 : ROW.toList.take (i * 2) = inner.take (i * 2) := by
          rw [hROW, Array.toList_append, Array.toList_append, List.append_assoc]
          exact List.take_left' (by rw [List.length_take]; omega)
        have e1 : cur1.toList.take ((i + 1) * 2) = inner.take (i * 2) ++ vs := by
          rw [ht1, e0]
          exact List.take_left' (by rw [List.length_append, List.length_take]; omega)
        rw [e1]
        exact List.take_left' (by simp only [List.length_append, List.length_take, hvl, hnl]; omega))
      (fun ok' => Kd.reps_append (Kd.reps_append (Kd.reps_take (hrep _ ok') (by omega)) (hvM _ ok')) (by rw [hnews]; exact Kd.reps_drop (hrep _ ok')))
    rw [hlen] at hR
    exact hR
  have hcpA : ∀ (W : World), (∀ x, W.cell? x = ((w.alloc (.cells ROW 77)).drew).cell? x) → (∀ x, W.frozen? x = ((w.alloc (.cells ROW 77)).drew).frozen? x) → ∀ ty dc, (Builtin.copy_ #[22, 22] ty #[.slice (some ⟨w.heap.size, i * 2, none⟩) (n + 1 - i) dc, .slice (some ⟨vb, 0, none⟩) 1 c2]).run Tryz.prog W = .ok (goInt (Nat.min 1 (n + 1 - i))) (W.setCells w.heap.size (i * 2) vs) := fun W hWc hWf ty dc =>
    run_copy_k W 22 22 ty 77 w.heap.size (i * 2) (n + 1 - i) dc ⟨vb, 0, none⟩ 1 c2 2 vs Tryz.underlying22 hsm (by rw [hvl]; simp only [Nat.min_def]; split <;> omega)
      (fun j v hj => by
        have := hvc j v hj
        rw [add_at, Nat.zero_add, hWc, World.cell?_of_block (w := w)]
        · exact this
        · show (w.heap.push _)[vb]? = w.heap[vb]?; have hne : vb ≠ w.heap.size := by omega
          simp [Array.getElem?_push, hne])
      (fun j hj => by rw [hWc]; exact row_some hg0 _ (by rw [hRs]; omega)) (fun j hj => by rw [hWf]; exact blk_frozen hg0 _) h1v
  have hgN : g ≠ w.heap.size := by omega
  have hcpB : ∀ (W : World), (∀ x, W.cell? x = (((w.alloc (.cells ROW 77)).drew).setCells w.heap.size (i * 2) vs).cell? x) → (∀ x, W.frozen? x = (((w.alloc (.cells ROW 77)).drew).setCells w.heap.size (i * 2) vs).frozen? x) → ∀ ty dc sc, (Builtin.copy_ #[22, 22] ty #[.slice (some ⟨w.heap.size, (i + 1) * 2, none⟩) (n - i) dc, .slice (some ⟨g, i * 2, none⟩) (n - i) sc]).run Tryz.prog W = .ok (goInt (Nat.min (n - i) (n - i))) (W.setCells w.heap.size ((i + 1) * 2) news) := fun W hWc hWf ty dc sc =>
    run_copy_k W 22 22 ty 77 w.heap.size ((i + 1) * 2) (n - i) dc ⟨g, i * 2, none⟩ (n - i) sc 2 news Tryz.underlying22 hsm (by rw [hnl]; simp only [Nat.min_def]; split <;> omega)
      (fun j v hj => by
        rw [add_at, hWc, World.cell?_of_block (w := w.drew)]
        · rw [row_cell hgd]; exact hsrc j v hj
        · rw [setCells_far vs _ g (fun e => hgN e)]; show (w.heap.push _)[g]? = w.heap[g]?; simp [Array.getElem?_push, hgN])
      (fun j hj => by rw [hWc]; exact row_some hg1 _ (by rw [hs1, hRs]; omega)) (fun j hj => by rw [hWf]; exact blk_frozen hg1 _) hone
  have HEND := ak_ hend
  have HRZ := ak_ hrz
  have HCA := ak_ hcpA
  have HCB := ak_ hcpB
  have hw1 : IntKind.i64.wrap ((i : Int) + 1) = (i : Int) + 1 := by rw [IntKind.wrap_i64]; omega
  have hw2 : IntKind.i64.wrap ((n : Int) + 1) = (n : Int) + 1 := by rw [IntKind.wrap_i64]; omega
  have hw3 : IntKind.i64.wrap ((n : Int) + 1 - (i : Int)) = (n : Int) + 1 - (i : Int) := by rw [IntKind.wrap_i64]; omega
  have hin2 : i ≤ n := by omega
  have htn : ((i : Int) + 1).toNat = i + 1 := by omega
  have hb1 : (0 : Int) ≤ (i : Int) + 1 := by omega
  have hb2 : ¬ (G = i + 1) := by omega
  have hb5 : (i : Int) ≤ (n : Int) + 1 := by omega
  have hb6 : (i : Int) + 1 ≤ (n : Int) + 1 := by omega
  have hb3 : ¬ (G = i) := by omega
  have hb7 : (i : Int) ≤ (cap : Int) := by omega
  have hb4 : ¬ (cap = i) := by omega
  have hz2' : ¬ ((i : Int) = (n : Int)) := by omega
  have hz3 : (cap : Int) < (n : Int) + 1 := by omega
  have mixed : Tryz.prog.follows .mixedOrders = true := by kernel_rfl
  clear hn hend hcpA hcpB hg2 hg1 hg0 hgd hs2 hs1 ht2 ht1 hsrc hsrc0 hone hone0 hnl hnews hrep hti hil hsz hg hvg hvc h1v hvM hB hvl hlen hl2 hold hrz hRs hROW hG hkk hik hnc
  go_enter Tryz.func67, Tryz.ntmps67
  go_wp2_with (at_builtin; refine Go.Lib.wpList_append_run _ rfl _ _ _ _ rfl _ _ rfl rfl _ _ (HRZ.out _) ?_)
  rw [HCA.out (w.alloc (.cells ROW 77)).drew (fun _ => rfl) (fun _ => rfl)]
  go_wp2
  go_region_law_o (refine step_copy_run_ rfl _ _ 22 22 rfl (.slice (some ⟨w.heap.size, (i + 1) * 2, none⟩) (n - i) (G - (i + 1))) (.slice (some ⟨g, i * 2, none⟩) (n - i) (cap - i)) (by simp [Act.eval, Act.put]) (by simp [Act.eval, Act.put]) (HCB.out (((w.alloc (.cells ROW 77)).drew).setCells w.heap.size (i * 2) vs).drew (fun _ => rfl) (fun _ => rfl) _ _ _) ?_)
  go_wp2
  go_ret
  exact ⟨_, rfl, HEND.out⟩
theorem slices_Insert_api_Item_api_Item.calls (P0_ : Nat → Prop) (u9000_ : Value) (l0 : List S77) (a1 : Int) (A2 : Option Addr) (c2 : Nat) (l2 : List S77) (r : List S77) (w0 w : World) (hB : Below w0.heap.size w0 w) (ho0 : Kd.R k77 77 w w0.heap.size P0_ u9000_ l0)
    (hr2 : ∀ W_, Kept w W_ (fun k_ => P0_ k_) → Kd.C k77 W_ A2 l2.length l2) (hc2 : l2.length ≤ c2) (hp2 : ∃ b_ ok_, Kd.R k77 77 w b_ ok_ (.slice A2 l2.length c2) l2) (h : slices_Insert_api_Item_api_Item.f l0 a1 l2 = some r) :
    Calls Tryz.prog 67 #[u9000_, .int .i64 a1, .slice A2 l2.length c2] w fun e w' => ∃ v0_ : Value, e = .returned (v0_) ∧ Kd.R k77 77 w' w0.heap.size (fun k_ => (P0_ k_ ∨ w.heap.size ≤ k_)) v0_ r ∧ Below w0.heap.size w0 w' ∧ Kept w w' (fun k_ => P0_ k_) := by
  unfold slices_Insert_api_Item_api_Item.f at h
  split at h
  case isFalse => cases h
  case isTrue hh =>
    obtain ⟨h1, h2, h3, h4⟩ := hh
    obtain rfl := Option.some.inj h
    obtain ⟨i, rfl⟩ : ∃ i : Nat, a1 = i := ⟨a1.toNat, (Int.toNat_of_nonneg h1).symm⟩
    rw [Int.toNat_natCast]
    obtain ⟨b2, ok2, hp⟩ := hp2
    obtain ⟨vb, capv, curv, vs, he, _, _, hvg, hnv, _, hvsz, hvl, hvt, hvM⟩ := R_row k77_E hp (by omega)
    obtain ⟨b, o, inner2, hA, _, hnP, _, _⟩ := C_apart hr2 (by omega) (by decide)
    injection he with he1 he2 he3
    subst he3
    rw [hA] at he1
    injection he1 with he1
    injection he1 with he1 he4 he5
    subst he1 he4
    subst hA
    rw [k77_sz] at hvsz hvl hvt hvM
    rw [h3] at hvl hvt ⊢
    have hvM' : ∀ w' ok, Reps (k77.M w' w0.heap.size ok) k77.sz l2 vs := fun w' ok => (hvM w' ok).imp_ (fun _ _ hm => k77_KM (k77.K_of_M hm))
    have h1v : ∀ x ∈ vs, x.oneCell' = true := flat_one (hvM' w P0_) (by decide)
    have hvc : ∀ (j : Nat) (x : Value), vs[j]? = some x → w.cell? ⟨b, j, none⟩ = some x := fun j x hx => by
      rw [row_cell hvg]
      rw [← hvt, List.getElem?_take] at hx
      split at hx
      · exact hx
      · cases hx
    by_cases hin : i = l0.length
    · subst hin
      rw [List.take_length, List.drop_length, List.append_nil]
      exact ins_end P0_ u9000_ l0 l2 b c2 vs w0 w hB ho0 hvl h3 hvc h1v hvM' h4
    · obtain ⟨g, cap, cur, inner, rfl, hbg, hok, hg, hnc, hcm, hsz, hil, hti, hrep⟩ := R_row k77_E ho0 (by omega)
      rw [k77_sz] at hsz hil hti
      have hvb : b ≠ g := fun e => hnP (e ▸ hok)
      rcases Nat.lt_or_ge cap (l0.length + 1) with hroom | hroom
      · exact ins_grow P0_ l0 l2 b c2 g cap i cur curv inner vs w0 w hB hbg hok hg hcm hsz hil hti hrep (by omega) hnc hroom h4 hvb hvg h3 hvl hvc h1v hvM'
      · exact ins_room P0_ l0 l2 b c2 g cap i cur curv inner vs w0 w hB hbg hok hg hcm hsz hil hti hrep (by omega) hroom hvb hvg h3 hvl hvc h1v hvM'
end Go.Proofs.YtfkofbabeghgkaaGreat.Z
end

section
namespace Go.Proofs.YtfkofbabeghgkaaGreat.Z
attribute [local go_sem] max2_int min2_int max_two min_two max_three min_three max_four min_four   -- for this text's walks alone
mutual
def item_Apply.l0 : Nat → List (S77) → List (S60) → Int → Int → Option ((List (S77)) × Int)
 | 0, _, _, _, _ => none
 | k + 1, x0, x22, x23, x24 => if x24 < x23 then (if 0 ≤ x24 then (if x24 < (x22.length : Int) then ((item_place.f k x0 ((rd_T60 x22 x24).f0)).bind fun bt267 => (if bt267.2 = true then (item_Apply.j1 k x0 bt267.1 bt267.2 x22 x23 x24 ((rd_T60 x22 x24).f1) ((rd_T60 x22 x24).f0) ((rd_T60 x22 x24).f1) ((rd_T60 x22 x24).f2)) else (item_Apply.j1 k x0 bt267.1 bt267.2 x22 x23 x24 false ((rd_T60 x22 x24).f0) ((rd_T60 x22 x24).f1) ((rd_T60 x22 x24).f2)))) else (none)) else (none)) else (some (x0, 0))
def item_Apply.j1 : Nat → List (S77) → Int → Bool → List (S60) → Int → Int → Bool → ByteArray → Bool → ByteArray → Option ((List (S77)) × Int)
 | 0, _, _, _, _, _, _, _, _, _, _ => none
 | k + 1, x0, x9, x10, x22, x23, x24, x35, x267000, x267001, x267002 => if x35 = true then (if 0 ≤ x9 then (if x9 < (x0.length : Int) then (item_Apply.l0 k (x0.set (x9 : Int).toNat (⟨(rd_T77 x0 x9).f0, x267002⟩ : S77)) x22 x23 (wrap64 (x24 + 1))) else (none)) else (none)) else (if x10 = true then ((slices_Delete_api_Item_api_Item.f x0 x9 (wrap64 (x9 + 1))).bind fun t270 => (item_Apply.l0 k t270 x22 x23 (wrap64 (x24 + 1)))) else (if x267001 = true then ((slices_Insert_api_Item_api_Item.f x0 x9 (([(⟨x267000, x267002⟩ : S77)] : List (S77)))).bind fun t276 => (item_Apply.l0 k t276 x22 x23 (wrap64 (x24 + 1)))) else (item_Apply.l0 k x0 x22 x23 (wrap64 (x24 + 1)))))
end
def item_Apply.f (k : Nat) (l0 : List (S77)) (l1 : List (S60)) : Option ((List (S77)) × Int) := (item_Check.f k l0).bind fun t256 => ((item_CheckChanges.f k l1).bind fun t257 => ((cmp_Or_api_Errno.f k (([t256, t257] : List Int))).bind fun t261 => (if t261 = 0 then ((slices_Clone_api_Item_api_Item.f l0).bind fun t262 => (item_Apply.l0 k t262 l1 (l1.length : Int) 0)) else (some (([] : List (S77)), t261)))))
theorem item_Apply.mono_l : ∀ k, (∀ y0 y1 y2 y3, LeO (item_Apply.l0 k y0 y1 y2 y3) (item_Apply.l0 (k + 1) y0 y1 y2 y3)) ∧ (∀ y0 y1 y2 y3 y4 y5 y6 y7 y8 y9, LeO (item_Apply.j1 k y0 y1 y2 y3 y4 y5 y6 y7 y8 y9) (item_Apply.j1 (k + 1) y0 y1 y2 y3 y4 y5 y6 y7 y8 y9))
 | 0 => ⟨fun _ _ _ _ r h => by simp [item_Apply.l0] at h, fun _ _ _ _ _ _ _ _ _ _ r h => by simp [item_Apply.j1] at h⟩
 | k + 1 => by
  obtain ⟨ih0, ih1⟩ := item_Apply.mono_l k
  refine ⟨?_, ?_⟩
  ·intro y0 y1 y2 y3
   unfold item_Apply.l0
   repeat' first
   | (with_reducible exact ih0 _ _ _ _)
   | (with_reducible exact ih1 _ _ _ _ _ _ _ _ _ _)
   | (with_reducible exact cmp_Or_api_Errno.mono _ _)
   | (with_reducible exact item_Check.mono _ _)
   | (with_reducible exact item_CheckChanges.mono _ _)
   | (with_reducible exact item_place.mono _ _ _)
   | (with_reducible exact LeO.refl _)
   | (with_reducible exact LeO.none _)
   | (with_reducible refine LeO.ite ?_ ?_)
   | (with_reducible refine LeO.bind ?_ (fun _ => ?_))
   | exact ih0 _ _ _ _
   | exact ih1 _ _ _ _ _ _ _ _ _ _
   | exact cmp_Or_api_Errno.mono _ _
   | exact item_Check.mono _ _
   | exact item_CheckChanges.mono _ _
   | exact item_place.mono _ _ _
   | exact LeO.none _
   | refine LeO.ite ?_ ?_
   | refine LeO.bind ?_ (fun _ => ?_)
  intro y0 y1 y2 y3 y4 y5 y6 y7 y8 y9
  unfold item_Apply.j1
  repeat' first
  | (with_reducible exact ih0 _ _ _ _)
  | (with_reducible exact ih1 _ _ _ _ _ _ _ _ _ _)
  | (with_reducible exact cmp_Or_api_Errno.mono _ _)
  | (with_reducible exact item_Check.mono _ _)
  | (with_reducible exact item_CheckChanges.mono _ _)
  | (with_reducible exact item_place.mono _ _ _)
  | (with_reducible exact LeO.refl _)
  | (with_reducible exact LeO.none _)
  | (with_reducible refine LeO.ite ?_ ?_)
  | (with_reducible refine LeO.bind ?_ (fun _ => ?_))
  | exact ih0 _ _ _ _
  | exact ih1 _ _ _ _ _ _ _ _ _ _
  | exact cmp_Or_api_Errno.mono _ _
  | exact item_Check.mono _ _
  | exact item_CheckChanges.mono _ _
  | exact item_place.mono _ _ _
  | exact LeO.none _
  | refine LeO.ite ?_ ?_
  | refine LeO.bind ?_ (fun _ => ?_)
theorem item_Apply.mono : ∀ a0 a1 k, LeO (item_Apply.f k a0 a1) (item_Apply.f (k + 1) a0 a1) := by
 intro a0 a1 k
 obtain ⟨ih0, ih1⟩ := item_Apply.mono_l k
 unfold item_Apply.f
 repeat' first
   | (with_reducible exact ih0 _ _ _ _)
   | (with_reducible exact ih1 _ _ _ _ _ _ _ _ _ _)
   | (with_reducible exact cmp_Or_api_Errno.mono _ _)
   | (with_reducible exact item_Check.mono _ _)
   | (with_reducible exact item_CheckChanges.mono _ _)
   | (with_reducible exact item_place.mono _ _ _)
   | (with_reducible exact LeO.refl _)
   | (with_reducible exact LeO.none _)
   | (with_reducible refine LeO.ite ?_ ?_)
   | (with_reducible refine LeO.bind ?_ (fun _ => ?_))
   | exact ih0 _ _ _ _
   | exact ih1 _ _ _ _ _ _ _ _ _ _
   | exact cmp_Or_api_Errno.mono _ _
   | exact item_Check.mono _ _
   | exact item_CheckChanges.mono _ _
   | exact item_place.mono _ _ _
   | exact LeO.none _
   | refine LeO.ite ?_ ?_
   | refine LeO.bind ?_ (fun _ => ?_)
set_option maxHeartbeats 8000000 in
set_option maxRecDepth 100000 in
theorem item_Apply.calls (k : Nat) (A0 : Option Addr) (c0 : Nat) (l0 : List (S77)) (A1 : Option Addr) (c1 : Nat) (l1 : List (S60)) (r1 : List (S77)) (r2 : Int) (w : World) (hr0 : Kd.C k77 w A0 l0.length l0) (hc0 : l0.length ≤ c0) (hr1 : Kd.C k60 w A1 l1.length l1) (hc1 : l1.length ≤ c1) (h : item_Apply.f k l0 l1 = some (r1, r2)) :
  Calls Tryz.prog 37 #[.slice A0 l0.length c0, .slice A1 l1.length c1] w fun e w' => ∃ v0_ : Value, e = .returned (.tuple #[v0_, .int .i64 r2]) ∧ Kd.R k77 77 w' w.heap.size (fun _ => True) v0_ r1 ∧ Below w.heap.size w w' := by
 have hu60 := Tryz.underlying60
 have hu77 := Tryz.underlying77
 have HR0 := ak_ hr0
 have HC0 := ak_ hc0
 clear hr0 hc0
 have HR1 := ak_ hr1
 have HC1 := ak_ hc1
 clear hr1 hc1
 have HB := ak_ (Below.refl w.heap.size w)
 have H : ((item_Check.f k l0).bind fun t256 => ((item_CheckChanges.f k l1).bind fun t257 => ((cmp_Or_api_Errno.f k (([t256, t257] : List Int))).bind fun t261 => (if t261 = 0 then ((slices_Clone_api_Item_api_Item.f l0).bind fun t262 => (item_Apply.l0 k t262 l1 (l1.length : Int) 0)) else (some (([] : List (S77)), t261)))))) = some (r1, r2) := h
 clear h
 replace H := Option.bind_eq_some_iff.mp H
 obtain ⟨t256, A30, H⟩ := H
 replace H : ((item_CheckChanges.f k l1).bind fun t257 => ((cmp_Or_api_Errno.f k (([t256, t257] : List Int))).bind fun t261 => (if t261 = 0 then ((slices_Clone_api_Item_api_Item.f l0).bind fun t262 => (item_Apply.l0 k t262 l1 (l1.length : Int) 0)) else (some (([] : List (S77)), t261))))) = some (r1, r2) := H
 have A3 := ak_ A30
 clear A30
 replace H := Option.bind_eq_some_iff.mp H
 obtain ⟨t257, A40, H⟩ := H
 replace H : ((cmp_Or_api_Errno.f k (([t256, t257] : List Int))).bind fun t261 => (if t261 = 0 then ((slices_Clone_api_Item_api_Item.f l0).bind fun t262 => (item_Apply.l0 k t262 l1 (l1.length : Int) 0)) else (some (([] : List (S77)), t261)))) = some (r1, r2) := H
 have A4 := ak_ A40
 clear A40
 obtain ⟨y258, hy258⟩ : ∃ y_ : List Int, y_ = (([t256, t257] : List Int)) := ⟨_, rfl⟩
 replace H : ((cmp_Or_api_Errno.f k y258).bind fun t261 => (if t261 = 0 then ((slices_Clone_api_Item_api_Item.f l0).bind fun t262 => (item_Apply.l0 k t262 l1 (l1.length : Int) 0)) else (some (([] : List (S77)), t261)))) = some (r1, r2) := by first | (rw [hy258]; with_reducible exact H) | (have H2_ := (Option.bind_some _ _).symm.trans H; rw [hy258]; with_reducible exact H2_) | (have H2_ := (Option.bind_some _ _).symm.trans H; with_reducible exact H2_) | with_reducible exact H | (rw [hy258]; exact H) | exact H
 have Ny258 := ak_ hy258
 clear hy258
 replace H := Option.bind_eq_some_iff.mp H
 obtain ⟨t261, A50, H⟩ := H
 replace H : (if t261 = 0 then ((slices_Clone_api_Item_api_Item.f l0).bind fun t262 => (item_Apply.l0 k t262 l1 (l1.length : Int) 0)) else (some (([] : List (S77)), t261))) = some (r1, r2) := H
 have A5 := ak_ A50
 clear A50
 by_cases c6 : t261 = 0
 ·rw [if_pos c6] at H
  have c6b0 : (t261 == 0) = true := beq_iff_eq.mpr c6
  have c6b1 : (t261 != 0) = false := bne_eq_false_iff_eq.mpr c6
  clear c6
  replace H := Option.bind_eq_some_iff.mp H
  obtain ⟨t262, A70, H⟩ := H
  replace H : (item_Apply.l0 k t262 l1 (l1.length : Int) 0) = some (r1, r2) := H
  have A7 := ak_ A70
  clear A70
  have H' := ak_ H
  clear H
  go_enter Tryz.func37, Tryz.ntmps37
  go_wp2_with (first | ((with_reducible refine gate_callee (f := 40) rfl ?_); refine gl_ (some 12) Tryz.func40 #[.slice A0 l0.length c0] ?_; (with_reducible refine (item_Check.calls k _ _ l0 t256 _ ?side1 ?side2 A3.out).mono ?_); (case side1 => repeat (first | exact HR0.out | (with_reducible refine Kd.C_alloc ?_ _) | (with_reducible refine Kd.C_drewN ?_ _) | (with_reducible refine Kd.C_drew ?_))); (case side2 => exact HC0.out); rintro e w8 ⟨rfl, hb⟩; refine ⟨_, rfl, ?_⟩; replace HB := hb_ hb; (try clear hb); (try clear hb2); (try clear hk); (try clear hi)) | ((with_reducible refine gate_callee (f := 63) rfl ?_); refine gl_ (some 14) Tryz.func63 #[.slice A1 l1.length c1] ?_; (with_reducible refine (item_CheckChanges.calls k _ _ l1 t257 _ ?side1 ?side2 A4.out).mono ?_); (case side1 => exact cb_ HR1); (case side2 => exact HC1.out); rintro e w9 ⟨rfl, hb⟩; refine ⟨_, rfl, ?_⟩; replace HB := hb_ hb; (try clear hb); (try clear hb2); (try clear hk); (try clear hi)) | ((with_reducible refine gate_dst (N := 15) rfl ?_); refine Kd.R_lit (Kd.int .i64) _ 23 ?hg (N := 15) ?hd (xs := ([t256, t257] : List Int)) (inner := [.int .i64 t256, .int .i64 t257]) (ok := fun _ => True) (okp := fun _ => True) ?hr ?hp (fun _ hk => hk) trivial (Below.refl _ _) (Nat.le_refl _) (by simp) ?_; (case hd => rfl); (case hg => rfl); (case hr => first | (go_simp; done) | (go_simp; rfl)); (case hp => exact (Reps.one (show Kd.M (Kd.int .i64) _ _ _ t256 [.int .i64 t256] from rfl) (Reps.one (show Kd.M (Kd.int .i64) _ _ _ t257 [.int .i64 t257] from rfl) (Reps.none _ _)))); intro v259 w10 ho11 hb hg_ hnew_; clear hg_ hnew_; (first | rw [← Ny258.out] at ho11 | (simp only [Int.reduceToNat] at ho11; rw [← Ny258.out] at ho11)); have HO260 := rl_ ho11; replace HB := hb_ hb; clear hb ho11; obtain ⟨Ao12, co12, eo12⟩ := Kd.R_slice HO260.out; subst eo12) | ((with_reducible refine gate_callee (f := 48) rfl ?_); refine gl_ (some 16) Tryz.func48 #[.slice Ao12 y258.length co12] ?_; (with_reducible refine (cmp_Or_api_Errno.calls k _ _ y258 t261 _ ?side1 ?side2 A5.out).mono ?_); (case side1 => exact cr_ HO260); (case side2 => exact (Kd.R_reads' HO260.out).2.1); rintro e w' ⟨rfl, ⟨nd, rfl⟩⟩; refine ⟨_, rfl, ?_⟩) | ((with_reducible refine gate_callee (f := 64) rfl ?_); refine gl_ (some 21) Tryz.func64 #[.slice A0 l0.length c0] ?_; (with_reducible refine (slices_Clone_api_Item_api_Item.calls _ _ l0 t262 _ ?side1 ?side2 A7.out).mono ?_); (case side1 => repeat (first | exact (Kd.C_below HR0.out bel_) | (with_reducible refine Kd.C_alloc ?_ _) | (with_reducible refine Kd.C_drewN ?_ _) | (with_reducible refine Kd.C_drew ?_))); (case side2 => exact HC0.out); rintro e w13 ⟨v263, rfl, ho0, hb⟩; refine ⟨_, rfl, ?_⟩; have HO264 := rl_ ho0; replace HO260 := rb_ HO260 hb; replace HB := hb_ hb; (try clear hb); (try clear hb2); (try clear hk); (try clear hi); (try clear ho0)))
  go_loopg [0, 24] k (fun kq v0 v24 w' => ∃ (x0_1 : List (S77)) (x24_1 : Int), v24 = .int .i64 x24_1 ∧ Aside0 (item_Apply.l0 kq x0_1 l1 (l1.length : Int) x24_1 = some (r1, r2)) ∧ Aside0 (kq ≤ k) ∧ Aside0 (Kd.R k77 77 w' w.heap.size (fun _ => True) v0 x0_1) ∧ Aside0 (Below w.heap.size w w'))
  case atStart => exact ⟨(t262), (0), (by first | rfl | (simp; done) | (simp [*]; done)), H', ⟨Nat.le_refl _⟩, ⟨ra_ HO264⟩, ⟨bel_⟩⟩
  case round =>
   clear H'
   try clear c1
   try clear p2
   try clear c3
   try clear c4
   try clear c6
   try clear c6b0
   try clear c6b1
   obtain ⟨x0_1, x24_1, rfl, HA, HK1, HO_0, HB⟩ := hrel
   cases gk with
   | zero => exact absurd HA.out (by simp [item_Apply.l0])
   | succ k1 =>
    have H := HA.out
    clear HA
    simp only [item_Apply.l0] at H
    by_cases c14 : x24_1 < (l1.length : Int)
    ·rw [if_pos c14] at H
     have c14b0 : decide (x24_1 < (l1.length : Int)) = true := decide_eq_true c14
     clear c14
     by_cases c15 : 0 ≤ x24_1
     ·rw [if_pos c15] at H
      have c15b0 : decide (0 ≤ x24_1) = true := decide_eq_true c15
      clear c15
      by_cases c16 : x24_1 < (l1.length : Int)
      ·rw [if_pos c16] at H
       have c16b0 : decide (x24_1 < (l1.length : Int)) = true := decide_eq_true c16
       clear c16
       replace H := Option.bind_eq_some_iff.mp H
       obtain ⟨⟨t267, t268⟩, A170, H⟩ := H
       replace H : (if t268 = true then (item_Apply.j1 k1 x0_1 t267 t268 l1 (l1.length : Int) x24_1 ((rd_T60 l1 x24_1).f1) ((rd_T60 l1 x24_1).f0) ((rd_T60 l1 x24_1).f1) ((rd_T60 l1 x24_1).f2)) else (item_Apply.j1 k1 x0_1 t267 t268 l1 (l1.length : Int) x24_1 false ((rd_T60 l1 x24_1).f0) ((rd_T60 l1 x24_1).f1) ((rd_T60 l1 x24_1).f2))) = some (r1, r2) := H
       have A17 := ak_ A170
       clear A170
       have HC18 := ak_ H
       clear H
       have p265 : 0 ≤ (x24_1 : Int) := of_decide_eq_true (by first | (with_reducible assumption) | assumption)
       have q265 : x24_1 < (l1.length : Int) := of_decide_eq_true (by first | (with_reducible assumption) | assumption)
       obtain ⟨ad265, e265, hx265_0, hx265_1, hx265_2⟩ := at_T60 HR1.out x24_1 p265 q265
       cases e265
       replace hx265_0 := (HB.out.cell (World.block_lt_of_cell? w _ hx265_0)).trans hx265_0
       replace hx265_1 := (HB.out.cell (World.block_lt_of_cell? w _ hx265_1)).trans hx265_1
       replace hx265_2 := (HB.out.cell (World.block_lt_of_cell? w _ hx265_2)).trans hx265_2
       replace p265 := eq_true p265
       replace q265 := eq_true q265
       go_upto_region 9 with (first | ((with_reducible refine gate_dst (N := 8) rfl ?_); refine bx_ (N := 8) (cs := #[.string (⟨#[]⟩ : ByteArray), .bool false, .string (⟨#[]⟩ : ByteArray)]) (t := 60) ?_; intro gb266 hg w19 hbox hb; have n0_ := ak_ (Kd.R_below (ra_ HO_0) hb); have n1_ := ak_ (below_step bel_ hb); have n2_ := ak_ (hbox); have n3_ := ak_ ((by rw [hg]; exact (below_size bel_) : w.heap.size ≤ gb266)); have n4_ := ak_ ((by rw [hg]; exact (below_size bel_) : w.heap.size ≤ gb266)); clear HO_0; clear HB; have HO_0 := n0_; have HB := n1_; have BK266 := n2_; have GW266 := n3_; have GE266 := n4_; clear n0_ n1_ n2_ n3_ n4_; clear hb hbox hg; have hcz20_0 : w19.cell? ⟨gb266, 0, none⟩ = some (.string (⟨#[]⟩ : ByteArray)) := (blk_cell BK266.out 0).trans rfl; have hcz20_1 : w19.cell? ⟨gb266, 1, none⟩ = some (.bool false) := (blk_cell BK266.out 1).trans rfl; have hcz20_2 : w19.cell? ⟨gb266, 2, none⟩ = some (.string (⟨#[]⟩ : ByteArray)) := (blk_cell BK266.out 2).trans rfl; have hfz20_0 := blk_frozen BK266.out 0; have hfz20_1 := blk_frozen BK266.out 1; have hfz20_2 := blk_frozen BK266.out 2; obtain ⟨Ao21, co21, eo21⟩ := Kd.R_slice HO_0.out; subst eo21) | ((with_reducible refine gate_callee (f := 65) rfl ?_); refine gl_ (some 32) Tryz.func65 #[.slice Ao21 x0_1.length co21, .string ((rd_T60 l1 x24_1).f0)] ?_; (with_reducible refine (item_place.calls k1 _ _ x0_1 ((rd_T60 l1 x24_1).f0) t267 t268 _ ?side1 ?side2 A17.out).mono ?_); (case side1 => exact (Kd.R_reads' (rw_ HO_0)).2.2); (case side2 => exact (Kd.R_reads' HO_0.out).2.1); rintro e w22 ⟨rfl, hb⟩; refine ⟨_, rfl, ?_⟩; have n0_ := ak_ (Kd.R_below (rw_ HO_0) hb); have n1_ := ak_ (blk_below (g := gb266) (o := .cells #[.string ((rd_T60 l1 x24_1).f0), .bool ((rd_T60 l1 x24_1).f1), .string ((rd_T60 l1 x24_1).f2)] 60 (0, 0)) (bs_) hb); have n2_ := ak_ (below_step bel_ hb); clear HO_0; clear BK266; clear HB; have HO_0 := n0_; have BK266 := n1_; have HB := n2_; clear n0_ n1_ n2_; (try clear hb); (try clear hb2); (try clear hk); (try clear hi)))
       (try simp only [Act.put, List.setIfInBounds_toArray, List.set_cons_zero, List.set_cons_succ])
       go_cut [35] (fun v35 wc => ∃ (kq : Nat) (x35_17 : Bool), v35 = .bool x35_17 ∧ Aside0 (item_Apply.j1 kq x0_1 t267 t268 l1 (l1.length : Int) x24_1 x35_17 ((rd_T60 l1 x24_1).f0) ((rd_T60 l1 x24_1).f1) ((rd_T60 l1 x24_1).f2) = some (r1, r2)) ∧ Aside0 (kq ≤ k1) ∧ Aside0 (Kd.R k77 77 wc w.heap.size (fun _ => True) (.slice Ao21 x0_1.length co21) x0_1) ∧ Aside0 (wc.heap[gb266]? = some (.cells #[.string ((rd_T60 l1 x24_1).f0), .bool ((rd_T60 l1 x24_1).f1), .string ((rd_T60 l1 x24_1).f2)] 60 (0, 0))) ∧ Aside0 (Below w.heap.size w wc))
       case first =>
        have H := HC18.out
        clear HC18
        by_cases c23 : t268 = true
        ·subst c23
         have H1 : (item_Apply.j1 k1 x0_1 t267 true l1 (l1.length : Int) x24_1 ((rd_T60 l1 x24_1).f1) ((rd_T60 l1 x24_1).f0) ((rd_T60 l1 x24_1).f1) ((rd_T60 l1 x24_1).f2)) = some (r1, r2) := by rw [if_pos rfl] at H; exact H
         clear H
         have H := H1
         clear H1
         have H' := ak_ H
         clear H
         obtain ⟨hcz24_0, hcz24_1, hcz24_2⟩ := cl3_ BK266
         obtain ⟨hfz24_0, hfz24_1, hfz24_2⟩ := fz3_ BK266
         go_wp2
         go_meet
         case rel => exact ⟨_, ((rd_T60 l1 x24_1).f1), (by first | rfl | (simp; done) | (simp [*]; done)), H', ⟨by have := HK1.out; first | omega | exact Nat.le_refl _⟩, ⟨ra_ HO_0⟩, ⟨bk_ BK266⟩, ⟨bel_⟩⟩
        replace c23 := Bool.eq_false_iff.mpr c23
        subst c23
        have H1 : (item_Apply.j1 k1 x0_1 t267 false l1 (l1.length : Int) x24_1 false ((rd_T60 l1 x24_1).f0) ((rd_T60 l1 x24_1).f1) ((rd_T60 l1 x24_1).f2)) = some (r1, r2) := by rw [if_neg (show ¬ (false = true) by decide)] at H; exact H
        clear H
        have H := H1
        clear H1
        have H' := ak_ H
        clear H
        go_wp2
        go_meet
        case rel => exact ⟨_, (false), (by first | rfl | (simp; done) | (simp [*]; done)), H', ⟨by have := HK1.out; first | omega | exact Nat.le_refl _⟩, ⟨ra_ HO_0⟩, ⟨bk_ BK266⟩, ⟨bel_⟩⟩
       case rest =>
        clear HC18
        try clear c1
        try clear c2
        try clear p2
        try clear q2
        try clear hx2
        try clear c3
        try clear c4
        try clear c6
        try clear c6b0
        try clear c6b1
        try clear c14
        try clear c14b0
        try clear c15
        try clear c15b0
        try clear c16
        try clear c16b0
        try clear c23
        try clear hcz20_0
        try clear hcz20_1
        try clear hcz20_2
        try clear hcz24_0
        try clear hcz24_1
        try clear hcz24_2
        try clear hfz20_0
        try clear hfz20_1
        try clear hfz20_2
        try clear hfz24_0
        try clear hfz24_1
        try clear hfz24_2
        try clear hx265_0
        try clear hx265_1
        try clear hx265_2
        try clear p2
        try clear p265
        try clear q265
        obtain ⟨kq, x35_17, rfl, HA, HJ17, HO_0, BK266, HB⟩ := hcut
        cases kq with
        | zero => exact absurd HA.out (by simp [item_Apply.j1])
        | succ kj17 =>
         have H := HA.out
         clear HA
         simp only [item_Apply.j1] at H
         by_cases c25 : x35_17 = true
         ·subst c25
          have H1 : (if 0 ≤ t267 then (if t267 < (x0_1.length : Int) then (item_Apply.l0 kj17 (x0_1.set (t267 : Int).toNat (⟨(rd_T77 x0_1 t267).f0, ((rd_T60 l1 x24_1).f2)⟩ : S77)) l1 (l1.length : Int) (wrap64 (x24_1 + 1))) else (none)) else (none)) = some (r1, r2) := by rw [if_pos rfl] at H; exact H
          clear H
          have H := H1
          clear H1
          by_cases c26 : 0 ≤ t267
          ·rw [if_pos c26] at H
           have c26b0 : decide (0 ≤ t267) = true := decide_eq_true c26
           clear c26
           by_cases c27 : t267 < (x0_1.length : Int)
           ·rw [if_pos c27] at H
            have c27b0 : decide (t267 < (x0_1.length : Int)) = true := decide_eq_true c27
            clear c27
            obtain ⟨y269, hy269⟩ : ∃ y_ : List (S77), y_ = (x0_1.set (t267 : Int).toNat (⟨(rd_T77 x0_1 t267).f0, ((rd_T60 l1 x24_1).f2)⟩ : S77)) := ⟨_, rfl⟩
            replace H : (item_Apply.l0 kj17 y269 l1 (l1.length : Int) (wrap64 (x24_1 + 1))) = some (r1, r2) := by first | (rw [hy269]; with_reducible exact H) | (have H2_ := (Option.bind_some _ _).symm.trans H; rw [hy269]; with_reducible exact H2_) | (have H2_ := (Option.bind_some _ _).symm.trans H; with_reducible exact H2_) | with_reducible exact H | (rw [hy269]; exact H) | exact H
            have Ny269 := ak_ hy269
            clear hy269
            have H' := ak_ H
            clear H
            obtain ⟨hcz29_0, hcz29_1, hcz29_2⟩ := cl3_ BK266
            obtain ⟨hfz29_0, hfz29_1, hfz29_2⟩ := fz3_ BK266
            have p28 : 0 ≤ (t267 : Int) := of_decide_eq_true (by first | (with_reducible assumption) | assumption)
            have q28 : (t267 : Int) < ((x0_1.length : Int) : Int) := of_decide_eq_true (by first | (with_reducible assumption) | assumption)
            obtain ⟨go28, co28, eo28, gb28, gl28, cl28, HG28⟩ := Kd.R_form HO_0.out (by omega)
            (first | cases eo28 | (injection eo28 with ea_ en_ ec_; (first | subst ea_ | (injection ea_ with ea_; subst ea_)); subst ec_; clear en_))
            have GB28 := ak_ gb28
            have GG28 := ak_ HG28
            clear gb28 gl28 HG28
            obtain ⟨ce28, hcl28, hM28, hcc28, hfr28⟩ := Kd.R_elem HO_0.out z77 (t267 : Int) p28 q28
            obtain rfl := k77_openM hM28
            have hx28_0 : wc.cell? ⟨go28, (t267 : Int).toNat * 2, none⟩ = some (.string ((rd_T77 x0_1 t267).f0)) := hcc28 0 _ rfl
            have hx28_1 : wc.cell? ⟨go28, (t267 : Int).toNat * 2 + 1, none⟩ = some (.string ((rd_T77 x0_1 t267).f1)) := hcc28 1 _ rfl
            have hf28_0 : wc.frozen? ⟨go28, (t267 : Int).toNat * 2, none⟩ = false := hfr28 0
            have hf28_1 : wc.frozen? ⟨go28, (t267 : Int).toNat * 2 + 1, none⟩ = false := hfr28 1
            clear hcl28 hcc28 hfr28 hM28
            replace p28 := eq_true p28
            replace q28 := eq_true q28
            have HX30 := ak_ (show Kd.R k77 77 wc w.heap.size (fun _ => True) (.slice (some ⟨go28, 0, none⟩) x0_1.length co21) x0_1 from (ra_ HO_0))
            obtain ⟨ce30, hcl30, hM30, hcc30, hfr30⟩ := Kd.R_elem HX30.out z77 (t267 : Int) (of_decide_eq_true (by first | (with_reducible assumption) | assumption)) (by have h_ : (t267 : Int) < ((x0_1.length : Int) : Int) := of_decide_eq_true (by first | (with_reducible assumption) | assumption); first | exact h_ | (have e_ := (Kd.R_reads' HO_0.out).1; omega) | simpa using h_)
            obtain rfl := k77_openM hM30
            have HP30 := Kd.R_seg HX30.out (t267 : Int) (of_decide_eq_true (by first | (with_reducible assumption) | assumption)) (by have h_ : (t267 : Int) < ((x0_1.length : Int) : Int) := of_decide_eq_true (by first | (with_reducible assumption) | assumption); first | exact h_ | (have e_ := (Kd.R_reads' HO_0.out).1; omega) | simpa using h_) (seg := [.string ((rd_T60 l1 x24_1).f2)]) (j := 1) hcl30 hcc30 (show 2 ≤ 2 from by decide) (x' := (⟨(rd_T77 x0_1 t267).f0, ((rd_T60 l1 x24_1).f2)⟩ : S77)) (k77_mkM _ _ _ (⟨(rd_T77 x0_1 t267).f0, ((rd_T60 l1 x24_1).f2)⟩ : S77) ) (fun _ hk => hk)
            have hx30_1 := hcc30 1 _ rfl
            (try simp only [show (k77).sz = 2 from rfl, Nat.mul_one, Nat.add_zero] at hx30_1)
            have hf30_1 := hfr30 1
            (try simp only [show (k77).sz = 2 from rfl, Nat.mul_one, Nat.add_zero] at hf30_1)
            clear hcl30 hcc30 hfr30 hM30
            go_wp2_with (first | ((with_reducible refine gate_store (t := 9) (p := 46) rfl ?_); refine store_event (t := 9) (p := 46) (v := ?vo_w31) (w1 := (wc.setCell ⟨go28, (t267 : Int).toNat * 2 + 1, none⟩ (.string ((rd_T60 l1 x24_1).f2)))) ?hg ?ho ?hn ?hr ?_; (case ho => rfl); (case hg => rfl); (case hn => rfl); (case hr => first | (go_simp; done) | (go_simp; rfl)); intro w31 hw; have hg : wc.grownBy w31 (some go28) := (by rw [hw]; exact HP30.2); have hp_ : Kd.R k77 77 w31 w.heap.size (fun _ => True) (.slice (some ⟨go28, 0, none⟩) x0_1.length co21) y269 := (by rw [hw, Ny269.out]; exact HP30.1); clear HP30; replace BK266 := ak_ (blk_grown (bk_ BK266) hg (Kd.R_ne HO_0.out BK266.out (by decide))); replace HB := ak_ ((by rw [hw]; exact below_set (HB.out) GB28.out : Below w.heap.size w w31)); replace HO_0 := ak_ (hp_); clear hg hw hp_))
            go_roundg kj17
            case measure => have := HK1.out; have := HJ17.out; omega
            case rel => exact ⟨(y269), (wrap64 (x24_1 + 1)), (by first | rfl | (simp; done) | (simp [*]; done)), H', ⟨by have := HK1.out; have := HJ17.out; omega⟩, ⟨ra_ HO_0⟩, ⟨bel_⟩⟩
           rw [if_neg c27] at H
           exact absurd H (by simp)
          rw [if_neg c26] at H
          exact absurd H (by simp)
         replace c25 := Bool.eq_false_iff.mpr c25
         subst c25
         have H1 : (if t268 = true then ((slices_Delete_api_Item_api_Item.f x0_1 t267 (wrap64 (t267 + 1))).bind fun t270 => (item_Apply.l0 kj17 t270 l1 (l1.length : Int) (wrap64 (x24_1 + 1)))) else (if ((rd_T60 l1 x24_1).f1) = true then ((slices_Insert_api_Item_api_Item.f x0_1 t267 (([(⟨((rd_T60 l1 x24_1).f0), ((rd_T60 l1 x24_1).f2)⟩ : S77)] : List (S77)))).bind fun t276 => (item_Apply.l0 kj17 t276 l1 (l1.length : Int) (wrap64 (x24_1 + 1)))) else (item_Apply.l0 kj17 x0_1 l1 (l1.length : Int) (wrap64 (x24_1 + 1))))) = some (r1, r2) := by rw [if_neg (show ¬ (false = true) by decide)] at H; exact H
         clear H
         have H := H1
         clear H1
         by_cases c32 : t268 = true
         ·subst c32
          have H1 : ((slices_Delete_api_Item_api_Item.f x0_1 t267 (wrap64 (t267 + 1))).bind fun t270 => (item_Apply.l0 kj17 t270 l1 (l1.length : Int) (wrap64 (x24_1 + 1)))) = some (r1, r2) := by rw [if_pos rfl] at H; exact H
          clear H
          have H := H1
          clear H1
          replace H := Option.bind_eq_some_iff.mp H
          obtain ⟨t270, A330, H⟩ := H
          replace H : (item_Apply.l0 kj17 t270 l1 (l1.length : Int) (wrap64 (x24_1 + 1))) = some (r1, r2) := H
          have A33 := ak_ A330
          clear A330
          have H' := ak_ H
          clear H
          go_wp2_with (first | ((with_reducible refine gate_callee (f := 66) rfl ?_); refine gl_ (some 53) Tryz.func66 #[.slice Ao21 x0_1.length co21, .int .i64 t267, .int .i64 (wrap64 (t267 + 1))] ?_; (with_reducible refine (slices_Delete_api_Item_api_Item.calls (fun k_ => some k_ = (.slice Ao21 x0_1.length co21 : Value).ownBlock) (.slice Ao21 x0_1.length co21) x0_1 t267 (wrap64 (t267 + 1)) t270 w _ ?side1 ?side2 A33.out).mono ?_); (case side1 => repeat (first | (with_reducible first | exact HB.out | apply below_alloc | apply pw_below_drewN | apply below_drew1 | refine below_set ?_ GE266.out) | exact HB.out)); (case side2 => exact Kd.R_tight rfl HO_0.out); rintro e w34 ⟨v271, rfl, ho0, hb, hkp⟩; refine ⟨_, rfl, ?_⟩; have HO272 := ak_ (Kd.R_mono (ok' := fun k_ => True) ho0 (fun k_ hk_ => trivial)); replace BK266 := ak_ (blk_kept (bk_ BK266) hkp (fun hs_ => (fun e_ => (Kd.R_ne HO_0.out BK266.out (by decide)) e_) hs_)); replace HB := ak_ (hb); clear HO_0; (try clear hb); (try clear hkp); (try clear ho0)))
          go_roundg kj17
          case measure => have := HK1.out; have := HJ17.out; omega
          case rel => exact ⟨(t270), (wrap64 (x24_1 + 1)), (by first | rfl | (simp; done) | (simp [*]; done)), H', ⟨by have := HK1.out; have := HJ17.out; omega⟩, ⟨ra_ HO272⟩, ⟨bel_⟩⟩
         replace c32 := Bool.eq_false_iff.mpr c32
         subst c32
         have H1 : (if ((rd_T60 l1 x24_1).f1) = true then ((slices_Insert_api_Item_api_Item.f x0_1 t267 (([(⟨((rd_T60 l1 x24_1).f0), ((rd_T60 l1 x24_1).f2)⟩ : S77)] : List (S77)))).bind fun t276 => (item_Apply.l0 kj17 t276 l1 (l1.length : Int) (wrap64 (x24_1 + 1)))) else (item_Apply.l0 kj17 x0_1 l1 (l1.length : Int) (wrap64 (x24_1 + 1)))) = some (r1, r2) := by rw [if_neg (show ¬ (false = true) by decide)] at H; exact H
         clear H
         have H := H1
         clear H1
         by_cases c35 : ((rd_T60 l1 x24_1).f1) = true
         ·rw [if_pos c35] at H
          have c35b0 : ((rd_T60 l1 x24_1).f1) = true := c35
          clear c35
          obtain ⟨y273, hy273⟩ : ∃ y_ : List (S77), y_ = (([(⟨((rd_T60 l1 x24_1).f0), ((rd_T60 l1 x24_1).f2)⟩ : S77)] : List (S77))) := ⟨_, rfl⟩
          replace H : ((slices_Insert_api_Item_api_Item.f x0_1 t267 y273).bind fun t276 => (item_Apply.l0 kj17 t276 l1 (l1.length : Int) (wrap64 (x24_1 + 1)))) = some (r1, r2) := by first | (rw [hy273]; with_reducible exact H) | (have H2_ := (Option.bind_some _ _).symm.trans H; rw [hy273]; with_reducible exact H2_) | (have H2_ := (Option.bind_some _ _).symm.trans H; with_reducible exact H2_) | with_reducible exact H | (rw [hy273]; exact H) | exact H
          have Ny273 := ak_ hy273
          clear hy273
          replace H := Option.bind_eq_some_iff.mp H
          obtain ⟨t276, A360, H⟩ := H
          replace H : (item_Apply.l0 kj17 t276 l1 (l1.length : Int) (wrap64 (x24_1 + 1))) = some (r1, r2) := H
          have A36 := ak_ A360
          clear A360
          have H' := ak_ H
          clear H
          obtain ⟨hcz37_0, hcz37_1, hcz37_2⟩ := cl3_ BK266
          obtain ⟨hfz37_0, hfz37_1, hfz37_2⟩ := fz3_ BK266
          go_wp2_with (first | ((with_reducible refine gate_dst (N := 64) rfl ?_); refine Kd.R_lit k77 _ 77 ?hg (N := 64) ?hd (xs := ([(⟨((rd_T60 l1 x24_1).f0), ((rd_T60 l1 x24_1).f2)⟩ : S77)] : List (S77))) (inner := [.string ((rd_T60 l1 x24_1).f0), .string ((rd_T60 l1 x24_1).f2)]) (ok := fun _ => True) (okp := fun _ => True) ?hr ?hp (fun _ hk => hk) trivial (Below.refl _ _) (Nat.le_refl _) (by simp) ?_; (case hd => rfl); (case hg => rfl); (case hr => first | (go_simp; done) | (go_simp; rfl)); (case hp => exact (Reps.c2 (show Kd.M k77 _ _ _ (⟨((rd_T60 l1 x24_1).f0), ((rd_T60 l1 x24_1).f2)⟩ : S77) [.string ((rd_T60 l1 x24_1).f0), .string ((rd_T60 l1 x24_1).f2)] from (k77_mkM _ _ _ (⟨((rd_T60 l1 x24_1).f0), ((rd_T60 l1 x24_1).f2)⟩ : S77) )) (Reps.none _ _))); intro v274 w38 ho39 hb hg_ hnew_; clear hg_ hnew_; (first | rw [← Ny273.out] at ho39 | (simp only [Int.reduceToNat] at ho39; rw [← Ny273.out] at ho39)); have HO275 := ak_ (Kd.R_lower (Kd.R_new' ho39 (Kd.R_lt (ra_ HO_0))) (below_size bel_)); replace HO_0 := ak_ (Kd.R_elder' (ra_ HO_0) (Kd.R_base ho39) hb); replace BK266 := kb_ BK266 hb; replace HB := hb_ hb; clear hb ho39; obtain ⟨Ao40, co40, eo40⟩ := Kd.R_slice HO275.out; subst eo40) | ((with_reducible refine gate_callee (f := 67) rfl ?_); refine gl_ (some 65) Tryz.func67 #[.slice Ao21 x0_1.length co21, .int .i64 t267, .slice Ao40 y273.length co40] ?_; (with_reducible refine (slices_Insert_api_Item_api_Item.calls (fun k_ => some k_ = (.slice Ao21 x0_1.length co21 : Value).ownBlock) (.slice Ao21 x0_1.length co21) x0_1 t267 _ _ y273 t276 w _ ?side1 ?side2 ?side3 ?side4 ?side5 A36.out).mono ?_); (case side1 => repeat (first | (with_reducible first | exact HB.out | apply below_alloc | apply pw_below_drewN | apply below_drew1 | refine below_set ?_ GE266.out) | exact HB.out)); (case side2 => exact Kd.R_tight rfl HO_0.out); (case side3 => exact Kd.C_kept_own (HO275.out) (fun k_ hk_ hs_ => (hk_.2) hs_)); (case side4 => exact (Kd.R_reads' HO275.out).2.1); (case side5 => exact ⟨_, _, HO275.out⟩); rintro e w41 ⟨v277, rfl, ho0, hb, hkp⟩; refine ⟨_, rfl, ?_⟩; have HO278 := ak_ (Kd.R_mono (ok' := fun k_ => some k_ ≠ (.slice Ao40 y273.length co40 : Value).ownBlock) ho0 (fun k_ hk_ => Or.elim hk_ (fun hs_ => fun e_ => (((HO275.out).1 k_ e_.symm).2) hs_) (fun hn_ => (Kd.fresh' (Kd.R_lt (ra_ HO275)) k_ hn_)))); replace BK266 := ak_ (blk_kept (bk_ BK266) hkp (fun hs_ => (fun e_ => (Kd.R_ne HO_0.out BK266.out (by decide)) e_) hs_)); replace HO275 := ak_ (Kd.R_mono (ok' := fun k_ => some k_ ≠ (v277 : Value).ownBlock) (Kd.R_keptB (HO275.out) hkp (fun k_ hk_ hs_ => (hk_.2) hs_)) (fun k_ hk_ => fun e_ => Or.elim (ho0.1 k_ e_.symm) (fun hs_ => hk_.2.1 hs_) (fun hn_ => Nat.not_le.2 hk_.2.2 hn_))); replace HB := ak_ (hb); clear HO_0; (try clear hb); (try clear hkp); (try clear ho0)))
          go_roundg kj17
          case measure => have := HK1.out; have := HJ17.out; omega
          case rel => exact ⟨(t276), (wrap64 (x24_1 + 1)), (by first | rfl | (simp; done) | (simp [*]; done)), H', ⟨by have := HK1.out; have := HJ17.out; omega⟩, ⟨by (with_reducible repeat (first | apply Kd.R_alloc | apply Kd.R_drewN | apply Kd.R_drew)); exact Kd.R_mono HO278.out (fun _ hk => trivial)⟩, ⟨bel_⟩⟩
         rw [if_neg c35] at H
         have c35b0 : ((rd_T60 l1 x24_1).f1) = false := by simpa using c35
         clear c35
         have H' := ak_ H
         clear H
         obtain ⟨hcz42_0, hcz42_1, hcz42_2⟩ := cl3_ BK266
         obtain ⟨hfz42_0, hfz42_1, hfz42_2⟩ := fz3_ BK266
         go_wp2
         go_roundg kj17
         case measure => have := HK1.out; have := HJ17.out; omega
         case rel => exact ⟨(x0_1), (wrap64 (x24_1 + 1)), (by first | rfl | (simp; done) | (simp [*]; done)), H', ⟨by have := HK1.out; have := HJ17.out; omega⟩, ⟨ra_ HO_0⟩, ⟨bel_⟩⟩
      rw [if_neg c16] at H
      exact absurd H (by simp)
     rw [if_neg c15] at H
     exact absurd H (by simp)
    rw [if_neg c14] at H
    have c14b0 : decide (x24_1 < (l1.length : Int)) = false := decide_eq_false c14
    clear c14
    simp only [Option.some.injEq, Prod.mk.injEq] at H
    obtain ⟨rfl, rfl⟩ := H
    go_wp2
    go_ret2
    exact ⟨_, by first | rfl | (simp [errW_none, errW_some] <;> rfl) | (simp [*, errW_none, errW_some] <;> rfl), by (with_reducible repeat (first | apply Kd.R_alloc | apply Kd.R_drewN | apply Kd.R_drew)); exact HO_0.out, bel_⟩
 rw [if_neg c6] at H
 have c6b0 : (t261 == 0) = false := beq_eq_false_iff_ne.mpr c6
 have c6b1 : (t261 != 0) = true := bne_iff_ne.mpr c6
 simp only [Option.some.injEq, Prod.mk.injEq] at H
 obtain ⟨rfl, rfl⟩ := H
 go_enter Tryz.func37, Tryz.ntmps37
 go_wp2_with (first | ((with_reducible refine gate_callee (f := 40) rfl ?_); refine gl_ (some 12) Tryz.func40 #[.slice A0 l0.length c0] ?_; (with_reducible refine (item_Check.calls k _ _ l0 t256 _ ?side1 ?side2 A3.out).mono ?_); (case side1 => repeat (first | exact HR0.out | (with_reducible refine Kd.C_alloc ?_ _) | (with_reducible refine Kd.C_drewN ?_ _) | (with_reducible refine Kd.C_drew ?_))); (case side2 => exact HC0.out); rintro e w43 ⟨rfl, hb⟩; refine ⟨_, rfl, ?_⟩; replace HB := hb_ hb; (try clear hb); (try clear hb2); (try clear hk); (try clear hi)) | ((with_reducible refine gate_callee (f := 63) rfl ?_); refine gl_ (some 14) Tryz.func63 #[.slice A1 l1.length c1] ?_; (with_reducible refine (item_CheckChanges.calls k _ _ l1 t257 _ ?side1 ?side2 A4.out).mono ?_); (case side1 => exact cb_ HR1); (case side2 => exact HC1.out); rintro e w44 ⟨rfl, hb⟩; refine ⟨_, rfl, ?_⟩; replace HB := hb_ hb; (try clear hb); (try clear hb2); (try clear hk); (try clear hi)) | ((with_reducible refine gate_dst (N := 15) rfl ?_); refine Kd.R_lit (Kd.int .i64) _ 23 ?hg (N := 15) ?hd (xs := ([t256, t257] : List Int)) (inner := [.int .i64 t256, .int .i64 t257]) (ok := fun _ => True) (okp := fun _ => True) ?hr ?hp (fun _ hk => hk) trivial (Below.refl _ _) (Nat.le_refl _) (by simp) ?_; (case hd => rfl); (case hg => rfl); (case hr => first | (go_simp; done) | (go_simp; rfl)); (case hp => exact (Reps.one (show Kd.M (Kd.int .i64) _ _ _ t256 [.int .i64 t256] from rfl) (Reps.one (show Kd.M (Kd.int .i64) _ _ _ t257 [.int .i64 t257] from rfl) (Reps.none _ _)))); intro v259 w45 ho46 hb hg_ hnew_; clear hg_ hnew_; (first | rw [← Ny258.out] at ho46 | (simp only [Int.reduceToNat] at ho46; rw [← Ny258.out] at ho46)); have HO260 := rl_ ho46; replace HB := hb_ hb; clear hb ho46; obtain ⟨Ao47, co47, eo47⟩ := Kd.R_slice HO260.out; subst eo47) | ((with_reducible refine gate_callee (f := 48) rfl ?_); refine gl_ (some 16) Tryz.func48 #[.slice Ao47 y258.length co47] ?_; (with_reducible refine (cmp_Or_api_Errno.calls k _ _ y258 t261 _ ?side1 ?side2 A5.out).mono ?_); (case side1 => exact cr_ HO260); (case side2 => exact (Kd.R_reads' HO260.out).2.1); rintro e w' ⟨rfl, ⟨nd, rfl⟩⟩; refine ⟨_, rfl, ?_⟩))
 go_ret2
 exact ⟨_, by first | rfl | (simp [errW_none, errW_some] <;> rfl) | (simp [*, errW_none, errW_some] <;> rfl), by first | exact Kd.R_nil _ _ _ _ _ | exact Kd.N_nil _ _ _ _ _ | exact Kd.V_nil _ _ _ _ _ | exact Kd.Q_nil _ _ _ _ _ | exact Kd.S_nil _ _ _ _ _, bel_⟩
theorem eqA77 (d : Nat) (w : World) (x0 y0 : ByteArray) (x1 y1 : ByteArray) :
    (Op.equalIn (d + 2) 77 (.agg #[.string x0, .string x1]) (.agg #[.string y0, .string y1])).run Tryz.prog w = .ok (x0.toList == y0.toList && (x1.toList == y1.toList)) w := by
  refine eqA_of Tryz.underlying77 (by kernel_rfl) ?_
  refine eqf_cons (by rfl) (by go_simp; rfl) (by go_simp; rfl) (by go_simp) ?_
  exact eqf_last (by rfl) (by go_simp; rfl) (by go_simp; rfl) (by go_simp)
end Go.Proofs.YtfkofbabeghgkaaGreat.Z
end

section
namespace Go.Proofs.YtfkofbabeghgkaaGreat.Z
attribute [local go_sem] max2_int min2_int max_two min_two max_three min_three max_four min_four   -- for this text's walks alone
attribute [local go_sem high] eqA77
def cambiumref04_Same.l0 : Nat → List (S77) → List (S77) → Int → Int → Option (Bool)
 | 0, _, _, _, _ => none
 | k + 1, x0, x1, x12, x13 => if x13 < x12 then (if 0 ≤ x13 then (if x13 < (x0.length : Int) then (if x13 < (x1.length : Int) then (if (!((((rd_T77 x0 x13).f0).toList) == (((rd_T77 x1 x13).f0).toList)) || (!((((rd_T77 x0 x13).f1).toList) == (((rd_T77 x1 x13).f1).toList)))) = true then (some false) else (cambiumref04_Same.l0 k x0 x1 x12 (wrap64 (x13 + 1)))) else (none)) else (none)) else (none)) else (some true)
def cambiumref04_Same.f (k : Nat) (l0 : List (S77)) (l1 : List (S77)) : Option (Bool) := if (l0.length : Int) = (l1.length : Int) then (cambiumref04_Same.l0 k l0 l1 (l0.length : Int) 0) else (some false)
theorem cambiumref04_Same.mono_l : ∀ k, (∀ y0 y1 y2 y3, LeO (cambiumref04_Same.l0 k y0 y1 y2 y3) (cambiumref04_Same.l0 (k + 1) y0 y1 y2 y3))
 | 0 => fun _ _ _ _ r h => by simp [cambiumref04_Same.l0] at h
 | k + 1 => by
  have ih0 := cambiumref04_Same.mono_l k
  ·intro y0 y1 y2 y3
   unfold cambiumref04_Same.l0
   repeat' first
   | (with_reducible exact ih0 _ _ _ _)
   | (with_reducible exact LeO.refl _)
   | (with_reducible exact LeO.none _)
   | (with_reducible refine LeO.ite ?_ ?_)
   | (with_reducible refine LeO.bind ?_ (fun _ => ?_))
   | exact ih0 _ _ _ _
   | exact LeO.none _
   | refine LeO.ite ?_ ?_
   | refine LeO.bind ?_ (fun _ => ?_)
theorem cambiumref04_Same.mono : ∀ a0 a1 k, LeO (cambiumref04_Same.f k a0 a1) (cambiumref04_Same.f (k + 1) a0 a1) := by
 intro a0 a1 k
 have ih0 := cambiumref04_Same.mono_l k
 unfold cambiumref04_Same.f
 repeat' first
   | (with_reducible exact ih0 _ _ _ _)
   | (with_reducible exact LeO.refl _)
   | (with_reducible exact LeO.none _)
   | (with_reducible refine LeO.ite ?_ ?_)
   | (with_reducible refine LeO.bind ?_ (fun _ => ?_))
   | exact ih0 _ _ _ _
   | exact LeO.none _
   | refine LeO.ite ?_ ?_
   | refine LeO.bind ?_ (fun _ => ?_)
set_option maxHeartbeats 8000000 in
set_option maxRecDepth 100000 in
theorem cambiumref04_Same.calls (k : Nat) (A0 : Option Addr) (c0 : Nat) (l0 : List (S77)) (A1 : Option Addr) (c1 : Nat) (l1 : List (S77)) (r : Bool) (w : World) (hr0 : Kd.C k77 w A0 l0.length l0) (hc0 : l0.length ≤ c0) (hr1 : Kd.C k77 w A1 l1.length l1) (hc1 : l1.length ≤ c1) (h : cambiumref04_Same.f k l0 l1 = some r) :
  Calls Tryz.prog 19 #[.slice A0 l0.length c0, .slice A1 l1.length c1] w fun e w' => e = .returned (.bool r) ∧ Drawn0 w w' := by
 have hu77 := Tryz.underlying77
 have HR0 := ak_ hr0
 have HC0 := ak_ hc0
 clear hr0 hc0
 have HR1 := ak_ hr1
 have HC1 := ak_ hc1
 clear hr1 hc1
 have H : (if (l0.length : Int) = (l1.length : Int) then (cambiumref04_Same.l0 k l0 l1 (l0.length : Int) 0) else (some false)) = some r := h
 clear h
 by_cases c3 : (l0.length : Int) = (l1.length : Int)
 ·rw [if_pos c3] at H
  have c3b0 : ((l0.length : Int) == (l1.length : Int)) = true := beq_iff_eq.mpr c3
  have c3b1 : ((l0.length : Int) != (l1.length : Int)) = false := bne_eq_false_iff_eq.mpr c3
  have c3b2 : (l0.length == l1.length) = true := by first | simpa using c3 | (simp at c3 ⊢; omega)
  clear c3
  have H' := ak_ H
  clear H
  go_enter Tryz.func19, Tryz.ntmps19
  go_wp2
  repeat (go_quiet (fail); try go_wp2)
  go_loopg [13] k (fun kq v13 w' => ∃ (x13_1 : Int), v13 = .int .i64 x13_1 ∧ Aside0 (cambiumref04_Same.l0 kq l0 l1 (l0.length : Int) x13_1 = some r) ∧ Aside0 (kq ≤ k) ∧ Drawn0 w w')
  case atStart => exact ⟨(0), (by first | rfl | (simp; done) | (simp [*]; done)), H', ⟨Nat.le_refl _⟩, by repeat (first | exact Drawn0.refl _ | apply Drawn0.step)⟩
  case round =>
   clear H'
   try clear c1
   try clear p2
   try clear c3
   try clear c3b0
   try clear c3b1
   try clear c3b2
   obtain ⟨x13_1, rfl, HA, HK1, ⟨m1, rfl⟩⟩ := hrel
   cases gk with
   | zero => exact absurd HA.out (by simp [cambiumref04_Same.l0])
   | succ k1 =>
    have H := HA.out
    clear HA
    simp only [cambiumref04_Same.l0] at H
    by_cases c4 : x13_1 < (l0.length : Int)
    ·rw [if_pos c4] at H
     have c4b0 : decide (x13_1 < (l0.length : Int)) = true := decide_eq_true c4
     clear c4
     by_cases c5 : 0 ≤ x13_1
     ·rw [if_pos c5] at H
      have c5b0 : decide (0 ≤ x13_1) = true := decide_eq_true c5
      clear c5
      by_cases c6 : x13_1 < (l0.length : Int)
      ·rw [if_pos c6] at H
       have c6b0 : decide (x13_1 < (l0.length : Int)) = true := decide_eq_true c6
       clear c6
       by_cases c7 : x13_1 < (l1.length : Int)
       ·rw [if_pos c7] at H
        have c7b0 : decide (x13_1 < (l1.length : Int)) = true := decide_eq_true c7
        clear c7
        by_cases c8 : (!((((rd_T77 l0 x13_1).f0).toList) == (((rd_T77 l1 x13_1).f0).toList)) || (!((((rd_T77 l0 x13_1).f1).toList) == (((rd_T77 l1 x13_1).f1).toList)))) = true
        ·rw [if_pos c8] at H
         have c8b0 : (!((((rd_T77 l0 x13_1).f0).toList) == (((rd_T77 l1 x13_1).f0).toList)) || (!((((rd_T77 l0 x13_1).f1).toList) == (((rd_T77 l1 x13_1).f1).toList)))) = true := c8
         clear c8
         obtain rfl := Option.some.inj H
         have p287 : 0 ≤ (x13_1 : Int) := of_decide_eq_true (by first | (with_reducible assumption) | assumption)
         have q287 : x13_1 < (l0.length : Int) := of_decide_eq_true (by first | (with_reducible assumption) | assumption)
         obtain ⟨ad287, e287, hx287_0, hx287_1⟩ := at_T77 HR0.out x13_1 p287 q287
         cases e287
         replace p287 := eq_true p287
         replace q287 := eq_true q287
         have p288 : 0 ≤ (x13_1 : Int) := of_decide_eq_true (by first | (with_reducible assumption) | assumption)
         have q288 : x13_1 < (l1.length : Int) := of_decide_eq_true (by first | (with_reducible assumption) | assumption)
         obtain ⟨ad288, e288, hx288_0, hx288_1⟩ := at_T77 HR1.out x13_1 p288 q288
         cases e288
         replace p288 := eq_true p288
         replace q288 := eq_true q288
         go_wp2
         repeat (go_quiet (fail); try go_wp2)
         go_ret
         exact ⟨by first | rfl | (simp; done) | (simp [*]; done), by repeat (first | exact Drawn0.refl _ | apply Drawn0.step)⟩
        rw [if_neg c8] at H
        have c8b0 : (!((((rd_T77 l0 x13_1).f0).toList) == (((rd_T77 l1 x13_1).f0).toList)) || (!((((rd_T77 l0 x13_1).f1).toList) == (((rd_T77 l1 x13_1).f1).toList)))) = false := by simpa using c8
        clear c8
        have H' := ak_ H
        clear H
        have p287 : 0 ≤ (x13_1 : Int) := of_decide_eq_true (by first | (with_reducible assumption) | assumption)
        have q287 : x13_1 < (l0.length : Int) := of_decide_eq_true (by first | (with_reducible assumption) | assumption)
        obtain ⟨ad287, e287, hx287_0, hx287_1⟩ := at_T77 HR0.out x13_1 p287 q287
        cases e287
        replace p287 := eq_true p287
        replace q287 := eq_true q287
        have p288 : 0 ≤ (x13_1 : Int) := of_decide_eq_true (by first | (with_reducible assumption) | assumption)
        have q288 : x13_1 < (l1.length : Int) := of_decide_eq_true (by first | (with_reducible assumption) | assumption)
        obtain ⟨ad288, e288, hx288_0, hx288_1⟩ := at_T77 HR1.out x13_1 p288 q288
        cases e288
        replace p288 := eq_true p288
        replace q288 := eq_true q288
        go_wp2
        repeat (go_quiet (fail); try go_wp2)
        go_roundg k1
        case measure => have := HK1.out; omega
        case rel => exact ⟨(wrap64 (x13_1 + 1)), (by first | rfl | (simp; done) | (simp [*]; done)), H', ⟨by have := HK1.out; omega⟩, by repeat (first | exact Drawn0.refl _ | apply Drawn0.step)⟩
       rw [if_neg c7] at H
       exact absurd H (by simp)
      rw [if_neg c6] at H
      exact absurd H (by simp)
     rw [if_neg c5] at H
     exact absurd H (by simp)
    rw [if_neg c4] at H
    have c4b0 : decide (x13_1 < (l0.length : Int)) = false := decide_eq_false c4
    clear c4
    obtain rfl := Option.some.inj H
    go_wp2
    repeat (go_quiet (fail); try go_wp2)
    go_ret
    exact ⟨by first | rfl | (simp; done) | (simp [*]; done), by repeat (first | exact Drawn0.refl _ | apply Drawn0.step)⟩
 rw [if_neg c3] at H
 have c3b0 : ((l0.length : Int) == (l1.length : Int)) = false := beq_eq_false_iff_ne.mpr c3
 have c3b1 : ((l0.length : Int) != (l1.length : Int)) = true := bne_iff_ne.mpr c3
 have c3b2 : (l0.length == l1.length) = false := by first | simpa using c3 | (simp at c3 ⊢; omega)
 obtain rfl := Option.some.inj H
 go_enter Tryz.func19, Tryz.ntmps19
 go_wp2
 repeat (go_quiet (fail); try go_wp2)
 go_ret
 exact ⟨by first | rfl | (simp; done) | (simp [*]; done), by repeat (first | exact Drawn0.refl _ | apply Drawn0.step)⟩
end Go.Proofs.YtfkofbabeghgkaaGreat.Z
end

section
namespace Go.Proofs.YtfkofbabeghgkaaGreat.Z
abbrev It := S77
abbrev Ch := S60
abbrev key (x : It) : List UInt8 := x.f0.toList
abbrev ck (c : Ch) : List UInt8 := c.f0.toList
theorem it_ext {x y : It} (h0 : x.f0.toList = y.f0.toList) (h1 : x.f1.toList = y.f1.toList) : x = y := by
  cases x; cases y
  simp only [S77.mk.injEq]
  exact ⟨bytes_inj h0, bytes_inj h1⟩
def okK (k : ByteArray) : Bool := decide (k.toList ≠ [] ∧ k.size ≤ 48)
def okI (x : It) : Bool := okK x.f0 && decide (x.f1.size ≤ 160)
def okF : Option It → List It → Bool
  | _, [] => true
  | p, x :: l => okI x && (match p with | none => true | some q => Op.bytesLess (key q) (key x)) && okF (some x) l
def okL (l : List It) : Bool := okF none l
def Asc (l : List It) : Prop := l.Pairwise (fun x y => Op.bytesLess (key x) (key y) = true)
theorem okF_iff : ∀ (l : List It) (p : Option It), okF p l = true ↔ (∀ x ∈ l, okI x = true) ∧ Asc (p.toList ++ l)
  | [], none => by simp [okF, Asc]
  | [], some q => by simp [okF, Asc]
  | x :: l, none => by
    have ih := okF_iff l (some x)
    simp only [okF, Bool.and_true, Bool.and_eq_true, ih, Option.toList, List.nil_append, List.mem_cons, forall_eq_or_imp, List.singleton_append]
    constructor
    · rintro ⟨a, b, c⟩; exact ⟨⟨a, b⟩, c⟩
    · rintro ⟨⟨a, b⟩, c⟩; exact ⟨a, b, c⟩
  | x :: l, some q => by
    have ih := okF_iff l (some x)
    simp only [okF, Bool.and_eq_true, ih, Option.toList, List.mem_cons, forall_eq_or_imp, List.singleton_append]
    constructor
    · rintro ⟨⟨a, d⟩, b, c⟩
      refine ⟨⟨a, b⟩, ?_⟩
      unfold Asc at c ⊢
      refine List.pairwise_cons.2 ⟨fun y hy => ?_, c⟩
      rcases List.mem_cons.1 hy with rfl | hy
      · exact d
      · exact bl_trans d ((List.pairwise_cons.1 c).1 y hy)
    · rintro ⟨⟨a, b⟩, c⟩
      unfold Asc at c ⊢
      have := List.pairwise_cons.1 c
      exact ⟨⟨a, this.1 x (List.mem_cons_self ..)⟩, b, this.2⟩
theorem okL_iff (l : List It) : okL l = true ↔ (∀ x ∈ l, okI x = true) ∧ Asc l := by
  unfold okL; rw [okF_iff]; simp
theorem Asc.cons {x : It} {l : List It} (h : Asc (x :: l)) : (∀ y ∈ l, Op.bytesLess (key x) (key y) = true) ∧ Asc l := List.pairwise_cons.1 h
theorem Asc.parts {a b : List It} (h : Asc (a ++ b)) : Asc a ∧ Asc b ∧ ∀ x ∈ a, ∀ y ∈ b, Op.bytesLess (key x) (key y) = true := List.pairwise_append.1 h
theorem Asc.app {a b : List It} (h1 : Asc a) (h2 : Asc b) (h3 : ∀ x ∈ a, ∀ y ∈ b, Op.bytesLess (key x) (key y) = true) : Asc (a ++ b) := List.pairwise_append.2 ⟨h1, h2, h3⟩
def okc (c : Ch) : Bool := okK c.f0 && decide (c.f2.size ≤ 160) && (c.f1 || decide (c.f2.toList = []))
def okC (l : List Ch) : Bool := l.all okc
-- where a key is
def lo (l : List It) (k : List UInt8) : List It := l.takeWhile (fun x => Op.bytesLess (key x) k)
def up (l : List It) (k : List UInt8) : List It := l.dropWhile (fun x => Op.bytesLess (key x) k)
def fnd (l : List It) (k : List UInt8) : Bool := match up l k with | x :: _ => key x == k | [] => false
def hi (l : List It) (k : List UInt8) : List It := (up l k).dropWhile (fun x => key x == k)
def new_ (c : Ch) : List It := if c.f1 then [⟨c.f0, c.f2⟩] else []
def put (l : List It) (c : Ch) : List It := lo l (ck c) ++ new_ c ++ hi l (ck c)
theorem lo_up (l : List It) (k : List UInt8) : lo l k ++ up l k = l := List.takeWhile_append_dropWhile
theorem lo_mem {l : List It} {k : List UInt8} : ∀ x ∈ lo l k, Op.bytesLess (key x) k = true := by
  unfold lo
  induction l with
  | nil => simp
  | cons y l ih =>
    intro x hx
    rw [List.takeWhile_cons] at hx
    split at hx
    next h => rcases List.mem_cons.1 hx with rfl | hx
              · exact h
              · exact ih x hx
    next h => cases hx
theorem up_head {l : List It} {k : List UInt8} {x : It} {r : List It} (h : up l k = x :: r) : Op.bytesLess (key x) k = false := by
  unfold up at h
  induction l with
  | nil => simp at h
  | cons y l ih =>
    rw [List.dropWhile_cons] at h
    split at h
    next => exact ih h
    next hn => injection h with h1 _; subst h1; simpa using hn
theorem up_ge {l : List It} (ha : Asc l) {k : List UInt8} : ∀ x ∈ up l k, Op.bytesLess (key x) k = false := by
  intro x hx
  cases hu : up l k with
  | nil => rw [hu] at hx; cases hx
  | cons y r =>
    have h1 := up_head hu
    rw [hu] at hx
    rcases List.mem_cons.1 hx with rfl | hx
    · exact h1
    · have h2 : Asc (lo l k ++ y :: r) := by rw [← hu, lo_up]; exact ha
      have h3 := (h2.parts.2.1.cons).1 x hx
      cases hb : Op.bytesLess (key x) k
      · rfl
      · have := bl_trans h3 hb; rw [this] at h1; cases h1
theorem parts_of {l : List It} (ha : Asc l) (k : List UInt8) : ∃ mid, l = lo l k ++ mid ++ hi l k ∧ up l k = mid ++ hi l k ∧ (∀ x ∈ lo l k, Op.bytesLess (key x) k = true) ∧ (∀ x ∈ hi l k, Op.bytesLess k (key x) = true) ∧
    ((mid = [] ∧ fnd l k = false) ∨ (∃ x, mid = [x] ∧ key x = k ∧ fnd l k = true)) := by
  cases hu : up l k with
  | nil =>
    have hh : hi l k = [] := by unfold hi; rw [hu]; rfl
    refine ⟨[], ?_, by rw [hh]; rfl, lo_mem, by rw [hh]; simp, .inl ⟨rfl, by unfold fnd; rw [hu]⟩⟩
    have := lo_up l k
    rw [hu] at this
    rw [hh]; simpa using this.symm
  | cons y r =>
    have h2 : Asc (lo l k ++ y :: r) := by rw [← hu, lo_up]; exact ha
    have hr := (h2.parts.2.1.cons).1
    have hy := up_head hu
    have hl : l = lo l k ++ y :: r := by rw [← hu, lo_up]
    by_cases he : key y = k
    · have hd : r.dropWhile (fun x => key x == k) = r := by
        cases r with
        | nil => rfl
        | cons z r =>
          have hz := hr z (List.mem_cons_self ..)
          have : (key z == k) = false := by rw [beq_eq_false_iff_ne]; rintro hk; rw [← he] at hk; exact bl_ne hz hk.symm
          rw [List.dropWhile_cons]; simp [this]
      have hh : hi l k = r := by
        unfold hi; rw [hu, List.dropWhile_cons]
        simp only [he, beq_self_eq_true, if_true]
        exact hd
      refine ⟨[y], by rw [hh]; simpa using hl, by rw [hh]; rfl, lo_mem, ?_, .inr ⟨y, rfl, he, by unfold fnd; rw [hu]; simpa using he⟩⟩
      rw [hh]; intro x hx; rw [← he]; exact hr x hx
    · have hk : Op.bytesLess k (key y) = true := by
        rcases bl_total (key y) k with h | h | h
        · exact absurd h he
        · have h' : Op.bytesLess (key y) k = true := h
          rw [hy] at h'; cases h'
        · exact h
      have hb : (key y == k) = false := by rw [beq_eq_false_iff_ne]; exact he
      have hh : hi l k = y :: r := by unfold hi; rw [hu, List.dropWhile_cons]; simp [hb]
      refine ⟨[], by rw [hh]; simpa using hl, by rw [hh]; rfl, lo_mem, ?_, .inl ⟨rfl, by unfold fnd; rw [hu]; exact hb⟩⟩
      rw [hh]; intro x hx
      rcases List.mem_cons.1 hx with rfl | hx
      · exact hk
      · exact bl_trans hk (hr x hx)
theorem lo_parts {pre rest : List It} {k : List UInt8} (h1 : ∀ x ∈ pre, Op.bytesLess (key x) k = true) (h2 : ∀ x ∈ rest, Op.bytesLess (key x) k = false) : lo (pre ++ rest) k = pre ∧ up (pre ++ rest) k = rest := by
  unfold lo up
  induction pre with
  | nil =>
    cases rest with
    | nil => exact ⟨rfl, rfl⟩
    | cons x r => have := h2 x (List.mem_cons_self ..); simp [this]
  | cons x pre ih =>
    have hx := h1 x (List.mem_cons_self ..)
    have := ih (fun y hy => h1 y (List.mem_cons_of_mem _ hy))
    simp [hx, this.1, this.2]
theorem put_parts {pre mid post : List It} {c : Ch} (h1 : ∀ x ∈ pre, Op.bytesLess (key x) (ck c) = true) (h2 : ∀ x ∈ mid, key x = ck c) (h3 : ∀ x ∈ post, Op.bytesLess (ck c) (key x) = true) : put (pre ++ mid ++ post) c = pre ++ new_ c ++ post := by
  have hr : ∀ x ∈ mid ++ post, Op.bytesLess (key x) (ck c) = false := by
    intro x hx
    rcases List.mem_append.1 hx with hx | hx
    · rw [h2 x hx]; exact bl_irrefl _
    · exact bl_asymm (h3 x hx)
  rw [List.append_assoc]
  have hl := lo_parts h1 hr
  unfold put hi
  rw [hl.1, hl.2]
  congr 1
  have hd : post.dropWhile (fun x => key x == ck c) = post := by
    cases post with
    | nil => rfl
    | cons z r =>
      have : (key z == ck c) = false := by rw [beq_eq_false_iff_ne]; exact (bl_ne (h3 z (List.mem_cons_self ..))).symm
      simp [this]
  induction mid with
  | nil => exact hd
  | cons x mid ih =>
    have hx : (key x == ck c) = true := by simpa using h2 x (List.mem_cons_self ..)
    rw [List.cons_append, List.dropWhile_cons, if_pos hx]
    exact ih (fun y hy => h2 y (List.mem_cons_of_mem _ hy)) (fun y hy => hr y (by simp at hy ⊢; exact .inr hy)) (lo_parts h1 (fun y hy => hr y (by simp at hy ⊢; exact .inr hy)))
theorem inew_ok {c : Ch} (hc : okc c = true) : ∀ x ∈ new_ c, okI x = true := by
  intro x hx
  unfold new_ at hx
  split at hx
  next => rw [List.mem_singleton.1 hx]; unfold okc at hc; unfold okI; simp only [Bool.and_eq_true] at hc ⊢; exact ⟨hc.1.1, hc.1.2⟩
  next => cases hx
theorem inew_key {c : Ch} : ∀ x ∈ new_ c, key x = ck c := by
  intro x hx
  unfold new_ at hx
  split at hx
  next => rw [List.mem_singleton.1 hx]
  next => cases hx
theorem new_asc (c : Ch) : Asc (new_ c) := by
  unfold new_ Asc
  split <;> simp
theorem put_ok {l : List It} {c : Ch} (hl : okL l = true) (hc : okc c = true) : okL (put l c) = true := by
  rw [okL_iff] at hl ⊢
  obtain ⟨h1, h2⟩ := hl
  obtain ⟨mid, hp, hu, hlo, hhi, hm⟩ := parts_of h2 (ck c)
  have hA : Asc (lo l (ck c) ++ (mid ++ hi l (ck c))) := by rw [← List.append_assoc, ← hp]; exact h2
  have hmem : ∀ x, x ∈ lo l (ck c) ∨ x ∈ hi l (ck c) → x ∈ l := by
    intro x hx; rw [hp]; simp only [List.mem_append]; rcases hx with hx | hx
    · exact .inl (.inl hx)
    · exact .inr hx
  refine ⟨fun x hx => ?_, ?_⟩
  · unfold put at hx
    simp only [List.mem_append] at hx
    rcases hx with (hx | hx) | hx
    · exact h1 x (hmem x (.inl hx))
    · exact inew_ok hc x hx
    · exact h1 x (hmem x (.inr hx))
  · unfold put
    rw [List.append_assoc]
    refine hA.parts.1.app ((new_asc c).app hA.parts.2.1.parts.2.1 fun x hx y hy => by rw [inew_key x hx]; exact hhi y hy) fun x hx y hy => ?_
    rcases List.mem_append.1 hy with hy | hy
    · rw [inew_key y hy]; exact hlo x hx
    · exact hA.parts.2.2 x hx y (List.mem_append_right _ hy)
theorem put_len (l : List It) (c : Ch) : (put l c).length ≤ l.length + 1 := by
  have h1 := congrArg List.length (lo_up l (ck c))
  rw [List.length_append] at h1
  have h2 : (hi l (ck c)).length ≤ (up l (ck c)).length := List.Sublist.length_le (List.dropWhile_sublist _)
  unfold put new_
  simp only [List.length_append]
  split <;> simp <;> omega
-- what is there
def look (l : List It) (k : List UInt8) : Option ByteArray := (l.find? (fun x => key x == k)).map (·.f1)
theorem look_app (a b : List It) (k : List UInt8) : look (a ++ b) k = (look a k).or (look b k) := by
  unfold look; rw [List.find?_append]; cases h : a.find? (fun x => key x == k) <;> simp
theorem look_none {l : List It} {k : List UInt8} (h : ∀ x ∈ l, key x ≠ k) : look l k = none := by
  unfold look
  rw [List.find?_eq_none.2 (fun x hx => by simpa using h x hx)]; rfl
theorem look_cons (x : It) (l : List It) (k : List UInt8) : look (x :: l) k = if key x = k then some x.f1 else look l k := by
  unfold look
  rw [List.find?_cons]
  by_cases h : key x = k
  · simp [h]
  · have : (key x == k) = false := by rw [beq_eq_false_iff_ne]; exact h
    rw [if_neg h, this]
-- the reference's Done
def apl (l : List It) (cs : List Ch) : List It := cs.foldl put l
theorem apl_ok : ∀ {cs : List Ch} {l : List It}, okL l = true → okC cs = true → okL (apl l cs) = true
  | [], _, h, _ => h
  | c :: cs, l, h, hc => by
    unfold okC at hc
    rw [List.all_cons, Bool.and_eq_true] at hc
    exact apl_ok (cs := cs) (put_ok h hc.1) hc.2
theorem apl_len : ∀ (cs : List Ch) (l : List It), (apl l cs).length ≤ l.length + cs.length
  | [], l => by simp [apl]
  | c :: cs, l => by
    have := apl_len cs (put l c)
    have h2 := put_len l c
    simp only [apl, List.foldl_cons, List.length_cons] at this ⊢
    omega
-- the changes between two
def dl (x : It) : Ch := ⟨x.f0, false, ⟨#[]⟩⟩
def ad (x : It) : Ch := ⟨x.f0, true, x.f1⟩
def diffL : List It → List It → List Ch
  | a, [] => a.map dl
  | [], y :: b => ad y :: diffL [] b
  | x :: a, y :: b => if Op.bytesLess (key x) (key y) then dl x :: diffL a (y :: b) else if key x = key y then (if x.f1.toList = y.f1.toList then diffL a b else ad y :: diffL a b) else ad y :: diffL (x :: a) b
termination_by a b => a.length + b.length
theorem diffL_len : ∀ (a b : List It), (diffL a b).length ≤ a.length + b.length
  | a, [] => by rw [diffL]; simp
  | [], y :: b => by have := diffL_len [] b; rw [diffL]; simp at this ⊢; omega
  | x :: a, y :: b => by
    rw [diffL]
    have h1 := diffL_len a (y :: b)
    have h2 := diffL_len a b
    have h3 := diffL_len (x :: a) b
    simp only [List.length_cons] at h1 h2 h3 ⊢
    split
    · simp; omega
    · split
      · split
        · omega
        · simp; omega
      · simp; omega
termination_by a b => a.length + b.length
theorem diffL_key : ∀ {a b : List It} {c : Ch}, c ∈ diffL a b → (∃ x ∈ a, ck c = key x) ∨ (∃ y ∈ b, ck c = key y)
  | a, [], c, h => by
    rw [diffL] at h
    obtain ⟨x, hx, rfl⟩ := List.mem_map.1 h
    exact .inl ⟨x, hx, rfl⟩
  | [], y :: b, c, h => by
    rw [diffL] at h
    rcases List.mem_cons.1 h with rfl | h
    · exact .inr ⟨y, List.mem_cons_self .., rfl⟩
    · rcases diffL_key h with ⟨x, hx, _⟩ | ⟨z, hz, e⟩
      · cases hx
      · exact .inr ⟨z, List.mem_cons_of_mem _ hz, e⟩
  | x :: a, y :: b, c, h => by
    rw [diffL] at h
    have up2 : ∀ {a' b' : List It}, ((∃ x ∈ a', ck c = key x) ∨ (∃ y ∈ b', ck c = key y)) → (∀ z ∈ a', z ∈ x :: a) → (∀ z ∈ b', z ∈ y :: b) → (∃ z ∈ x :: a, ck c = key z) ∨ (∃ z ∈ y :: b, ck c = key z) := by
      rintro a' b' (⟨z, hz, e⟩ | ⟨z, hz, e⟩) h1 h2
      · exact .inl ⟨z, h1 z hz, e⟩
      · exact .inr ⟨z, h2 z hz, e⟩
    have hy : ck (ad y) = key y := rfl
    split at h
    · rcases List.mem_cons.1 h with rfl | h
      · exact .inl ⟨x, List.mem_cons_self .., rfl⟩
      · exact up2 (diffL_key h) (fun z hz => List.mem_cons_of_mem _ hz) (fun z hz => hz)
    · split at h
      · split at h
        · exact up2 (diffL_key h) (fun z hz => List.mem_cons_of_mem _ hz) (fun z hz => List.mem_cons_of_mem _ hz)
        · rcases List.mem_cons.1 h with rfl | h
          · exact .inr ⟨y, List.mem_cons_self .., rfl⟩
          · exact up2 (diffL_key h) (fun z hz => List.mem_cons_of_mem _ hz) (fun z hz => List.mem_cons_of_mem _ hz)
      · rcases List.mem_cons.1 h with rfl | h
        · exact .inr ⟨y, List.mem_cons_self .., rfl⟩
        · exact up2 (diffL_key h) (fun z hz => hz) (fun z hz => List.mem_cons_of_mem _ hz)
termination_by a b => a.length + b.length
theorem diffL_each {Q : Ch → Prop} : ∀ {a b : List It}, (∀ x ∈ a, Q (dl x)) → (∀ y ∈ b, Q (ad y)) → ∀ c ∈ diffL a b, Q c
  | a, [], h1, h2, c, h => by
    rw [diffL] at h
    obtain ⟨x, hx, rfl⟩ := List.mem_map.1 h
    exact h1 x hx
  | [], y :: b, h1, h2, c, h => by
    rw [diffL] at h
    rcases List.mem_cons.1 h with rfl | h
    · exact h2 y (List.mem_cons_self ..)
    · exact diffL_each h1 (fun z hz => h2 z (List.mem_cons_of_mem _ hz)) c h
  | x :: a, y :: b, h1, h2, c, h => by
    rw [diffL] at h
    have ha := fun z hz => h1 z (List.mem_cons_of_mem _ hz)
    have hb := fun z hz => h2 z (List.mem_cons_of_mem _ hz)
    split at h
    · rcases List.mem_cons.1 h with rfl | h
      · exact h1 x (List.mem_cons_self ..)
      · exact diffL_each ha h2 c h
    · split at h
      · split at h
        · exact diffL_each ha hb c h
        · rcases List.mem_cons.1 h with rfl | h
          · exact h2 y (List.mem_cons_self ..)
          · exact diffL_each ha hb c h
      · rcases List.mem_cons.1 h with rfl | h
        · exact h2 y (List.mem_cons_self ..)
        · exact diffL_each h1 hb c h
termination_by a b => a.length + b.length
end Go.Proofs.YtfkofbabeghgkaaGreat.Z
end

section
namespace Go.Proofs.YtfkofbabeghgkaaGreat.Z
theorem rd_get (l : List It) (i : Nat) (h : i < l.length) : rd_T77 l (i : Int) = l[i] := by
  unfold rd_T77
  rw [Int.toNat_natCast, List.getD_eq_getElem?_getD, List.getElem?_eq_getElem h]; rfl
theorem rdc_get (l : List Ch) (i : Nat) (h : i < l.length) : rd_T60 l (i : Int) = l[i] := by
  unfold rd_T60
  rw [Int.toNat_natCast, List.getD_eq_getElem?_getD, List.getElem?_eq_getElem h]; rfl
theorem iright_f (x : It) : item_right.f x.f0 x.f1 = some (okI x) := by
  unfold item_right.f okI okK
  by_cases h : x.f0.toList = []
  · simp [h]
  · rw [if_neg h]
    by_cases h2 : (x.f0.size : Int) ≤ 48
    · rw [if_pos h2]
      have h3 : x.f0.size ≤ 48 := by omega
      have : decide ((x.f1.size : Int) ≤ 160) = decide (x.f1.size ≤ 160) := decide_eq_decide.2 (by omega)
      simp [h, h3, this]
    · rw [if_neg h2]
      have h3 : ¬ x.f0.size ≤ 48 := by omega
      simp [h3]
theorem rightc_f (c : Ch) : item_right.f c.f0 c.f2 = some (okK c.f0 && decide (c.f2.size ≤ 160)) := iright_f ⟨c.f0, c.f2⟩
def prv (l : List It) : Nat → Option It
  | 0 => none
  | j + 1 => l[j]?
theorem prv_succ (l : List It) (i : Nat) (h : i < l.length) : prv l (i + 1) = some l[i] := List.getElem?_eq_getElem h
def ckS (b : Bool) : Int := if b then 0 else 4
theorem okF_at (l : List It) (i : Nat) (h : i < l.length) : okF (prv l i) (l.drop i) = (okI l[i] && (match prv l i with | none => true | some q => Op.bytesLess (key q) (key l[i])) && okF (prv l (i + 1)) (l.drop (i + 1))) := by
  rw [List.drop_eq_getElem_cons h, prv_succ l i h]
  cases prv l i <;> rfl
theorem itCheck_l0 (l : List It) (hl : l.length ≤ 4398046511104) : ∀ d i : Nat, l.length = i + d → Ev (fun k => item_Check.l0 k l l (l.length : Int) (i : Int)) (ckS (okF (prv l i) (l.drop i)))
  | 0, i, hi => by
    refine Ev.step (fun k => by rw [item_Check.l0]) ?_
    refine Ev.ifn (by omega) (Ev.const ?_)
    rw [List.drop_of_length_le (by omega)]
    unfold okF; rfl
  | d + 1, i, hi => by
    have hlt : i < l.length := by omega
    have ih := itCheck_l0 l hl d (i + 1) (by omega)
    rw [okF_at l i hlt]
    refine Ev.step (fun k => by rw [item_Check.l0]) ?_
    refine Ev.ifp (by omega) (Ev.ifp (by omega) (Ev.ifp (by omega) (Ev.bindc (by rw [rd_get l i hlt]; exact iright_f _) ?_)))
    cases hr : okI l[i] with
    | false => exact Ev.ifn (by simp) (Ev.const rfl)
    | true =>
      refine Ev.ifp rfl ?_
      rw [w64 (i := (i : Int) + 1) (by omega) (by omega)]
      cases i with
      | zero =>
        refine Ev.ifn (by omega) (Ev.val ih ?_)
        simp [prv]
      | succ j =>
        refine Ev.ifp (by omega) ?_
        have e : wrap64 (((j + 1 : Nat) : Int) - 1) = (j : Int) := by rw [w64 (by omega) (by omega)]; omega
        rw [e]
        refine Ev.ifp (by omega) (Ev.ifp (by omega) ?_)
        rw [rd_get l j (by omega), rd_get l (j + 1) hlt]
        rw [prv_succ l j (by omega)]
        cases hb : Op.bytesLess (l[j]).f0.toList (l[j + 1]).f0.toList with
        | false =>
          refine Ev.ifn (by simp) (Ev.const ?_)
          simp [ckS, key, hb]
        | true =>
          refine Ev.ifp rfl (Ev.val ih ?_)
          simp [key, hb]
theorem itCheck (l : List It) (hl : l.length ≤ 4398046511104) : Ev (fun k => item_Check.f k l) (ckS (okL l)) := itCheck_l0 l hl l.length 0 (by omega)
-- two texts compared
def cmpS (a b : List UInt8) : Int := if Op.bytesLess a b = true then -1 else if Op.bytesLess b a = true then 1 else 0
theorem compare_f (a b : ByteArray) : cmp_Compare_string.f a b = some (cmpS a.toList b.toList) := by
  unfold cmp_Compare_string.f cmp_isNaN_string.f cmpS
  simp only [bne_self_eq_false, Option.bind_some, Bool.false_eq_true, if_false]
  split
  · rfl
  · split <;> rfl
theorem cmpS_lt (a b : List UInt8) : cmpS a b < 0 ↔ Op.bytesLess a b = true := by
  unfold cmpS
  cases h : Op.bytesLess a b
  · simp only [Bool.false_eq_true, if_false, iff_false]; split <;> omega
  · simp
theorem cmpS_eq (a b : List UInt8) : (cmpS a b == 0) = (a == b) := by
  unfold cmpS
  rcases bl_total a b with rfl | h | h
  · simp [bl_irrefl]
  · have := bl_ne h
    simp [h, this]
  · have := (bl_ne h).symm
    simp [h, bl_asymm h, this]
theorem iu64w {i : Int} (h0 : 0 ≤ i) (h1 : i ≤ 9223372036854775807) : IntKind.u64.wrap i = i := by
  simp [IntKind.wrap, IntKind.bits, IntKind.signed]; omega
theorem lo_get {l : List It} (ha : Asc l) (k : List UInt8) (h : Nat) (hh : h < l.length) : Op.bytesLess (key l[h]) k = true ↔ h < (lo l k).length := by
  have e := lo_up l k
  constructor
  · intro hb
    rcases Nat.lt_or_ge h (lo l k).length with hc | hc
    · exact hc
    · have hm : l[h] ∈ up l k := by
        have : l[h] = (lo l k ++ up l k)[h]'(by rw [e]; exact hh) := by simp only [e]
        rw [this, List.getElem_append_right hc]
        exact List.getElem_mem _
      rw [up_ge ha _ hm] at hb; cases hb
  · intro hc
    have hm : l[h] ∈ lo l k := by
      have : l[h] = (lo l k ++ up l k)[h]'(by rw [e]; exact hh) := by simp only [e]
      rw [this, List.getElem_append_left hc]
      exact List.getElem_mem _
    exact lo_mem _ hm
theorem lo_le (l : List It) (k : List UInt8) : (lo l k).length ≤ l.length := by
  have := congrArg List.length (lo_up l k); rw [List.length_append] at this; omega
theorem up_drop (l : List It) (k : List UInt8) : up l k = l.drop (lo l k).length := by
  have := congrArg (List.drop (lo l k).length) (lo_up l k)
  rw [List.drop_left] at this
  exact this
theorem search_l0 {l : List It} (ha : Asc l) (hl : l.length ≤ 4398046511104) (a : ByteArray) : ∀ d i j : Nat, j - i ≤ d → i ≤ (lo l a.toList).length → (lo l a.toList).length ≤ j → j ≤ l.length →
    Ev (fun k => slices_BinarySearchFunc_api_Item_api_Item_string_fn95.l0 k l a (l.length : Int) (i : Int) (j : Int)) (((lo l a.toList).length : Int), fnd l a.toList) := by
  have endd : ∀ i : Nat, i = (lo l a.toList).length → ∀ j : Nat, ¬ ((i : Int) < (j : Int)) → Ev (fun k => slices_BinarySearchFunc_api_Item_api_Item_string_fn95.l0 k l a (l.length : Int) (i : Int) (j : Int)) (((lo l a.toList).length : Int), fnd l a.toList) := by
    intro i hi j hj
    refine Ev.step (fun k => by rw [slices_BinarySearchFunc_api_Item_api_Item_string_fn95.l0]) (Ev.ifn hj ?_)
    have hu := up_drop l a.toList
    rw [← hi] at hu
    rcases Nat.lt_or_ge i l.length with hlt | hge
    · refine Ev.ifp (by omega) (Ev.ifp (by omega) (Ev.ifp (by omega) ?_))
      refine Ev.bindc (show item_place_1.f _ _ _ = some _ by unfold item_place_1.f; rw [compare_f]; rfl) (Ev.const ?_)
      rw [rd_get l i hlt, cmpS_eq, ← hi]
      unfold fnd
      rw [hu, List.drop_eq_getElem_cons hlt]
    · refine Ev.ifn (by omega) (Ev.const ?_)
      rw [← hi]
      unfold fnd
      rw [hu, List.drop_of_length_le hge]
  intro d
  induction d with
  | zero =>
    intro i j hd h1 h2 h3
    exact endd i (by omega) j (by omega)
  | succ d ih =>
    intro i j hd h1 h2 h3
    by_cases hij : i < j
    · refine Ev.step (fun k => by rw [slices_BinarySearchFunc_api_Item_api_Item_string_fn95.l0]) (Ev.ifp (by omega) ?_)
      have hm : wrap64 ((IntKind.u64.wrap (wrap64 ((i : Int) + (j : Int)))) / 2) = (((i + j) / 2 : Nat) : Int) := by
        rw [w64 (i := (i : Int) + (j : Int)) (by omega) (by omega), iu64w (by omega) (by omega), w64 (by omega) (by omega)]; omega
      rw [hm]
      obtain ⟨h, hh⟩ : ∃ h, h = (i + j) / 2 := ⟨_, rfl⟩
      have hh1 : i ≤ h := by omega
      have hh2 : h < j := by omega
      rw [← hh]
      have hlt : h < l.length := by omega
      refine Ev.ifp (by omega) (Ev.ifp (by omega) ?_)
      refine Ev.bindc (show item_place_1.f _ _ _ = some _ by unfold item_place_1.f; rw [compare_f]; rfl) ?_
      rw [rd_get l h hlt]
      have hg := lo_get ha a.toList h hlt
      by_cases hb : Op.bytesLess (key l[h]) a.toList = true
      · refine Ev.ifp ((cmpS_lt _ _).2 hb) ?_
        have e : wrap64 ((h : Int) + 1) = ((h + 1 : Nat) : Int) := by rw [w64 (by omega) (by omega)]; omega
        rw [e]
        exact ih (h + 1) j (by omega) (by have := hg.1 hb; omega) h2 h3
      · refine Ev.ifn (fun hc => hb ((cmpS_lt _ _).1 hc)) ?_
        refine ih i h (by omega) h1 ?_ (by omega)
        rcases Nat.lt_or_ge h (lo l a.toList).length with hc | hc
        · exact absurd (hg.2 hc) hb
        · exact hc
    · exact endd i (by omega) j (by omega)
theorem place_f {l : List It} (ha : Asc l) (hl : l.length ≤ 4398046511104) (a : ByteArray) : Ev (fun k => item_place.f k l a) (((lo l a.toList).length : Int), fnd l a.toList) := by
  unfold item_place.f slices_BinarySearchFunc_api_Item_api_Item_string_fn95.f
  exact Ev.bind (search_l0 ha hl a l.length 0 l.length (by omega) (by omega) (lo_le _ _) (Nat.le_refl _)) (Ev.const rfl)
theorem at_fnd {l : List It} (ha : Asc l) {k : List UInt8} (hf : fnd l k = true) : ∃ h : (lo l k).length < l.length, key (l[(lo l k).length]) = k ∧ l = lo l k ++ [l[(lo l k).length]] ++ hi l k := by
  obtain ⟨mid, hp, hu, hlo, hhi, hm⟩ := parts_of ha k
  rcases hm with ⟨_, h⟩ | ⟨x, rfl, hx, _⟩
  · rw [h] at hf; cases hf
  · have hlen := congrArg List.length hp
    simp only [List.length_append, List.length_singleton] at hlen
    have hlt : (lo l k).length < l.length := by omega
    have hg : l[(lo l k).length] = x := by
      have : l[(lo l k).length]? = some x := by
        have h2 := congrArg (fun z => z[(lo l k).length]?) hp
        simp only [List.append_assoc] at h2
        rw [List.getElem?_append_right (Nat.le_refl _), Nat.sub_self] at h2
        simpa using h2
      rw [List.getElem?_eq_getElem hlt] at this
      exact Option.some.inj this
    exact ⟨hlt, by rw [hg]; exact hx, by rw [hg]; exact hp⟩
theorem not_fnd {l : List It} (ha : Asc l) {k : List UInt8} (hf : fnd l k = false) : l = lo l k ++ hi l k := by
  obtain ⟨mid, hp, hu, hlo, hhi, hm⟩ := parts_of ha k
  rcases hm with ⟨rfl, _⟩ | ⟨x, rfl, hx, h⟩
  · simpa using hp
  · rw [h] at hf; cases hf
theorem look_at {l : List It} (ha : Asc l) (j : Nat) (h : j < l.length) : look l (key l[j]) = some (l[j]).f1 := by
  have e : l = l.take j ++ l[j] :: l.drop (j + 1) := by rw [← List.drop_eq_getElem_cons h, List.take_append_drop]
  have ha2 : Asc (l.take j ++ l[j] :: l.drop (j + 1)) := e ▸ ha
  have e2 := congrArg (fun z => look z (key l[j])) e
  simp only [look_app] at e2
  rw [e2, look_none (fun x hx => bl_ne (ha2.parts.2.2 x hx _ (List.mem_cons_self ..))), look_cons, if_pos rfl]; rfl
end Go.Proofs.YtfkofbabeghgkaaGreat.Z
end

section
namespace Go.Proofs.YtfkofbabeghgkaaGreat.Z
def hp (p : List UInt8) (x : It) : Bool := p.isPrefixOf (key x)
theorem same_l0 (x y : List It) (hl : x.length ≤ 9223372036854775806) (he : x.length = y.length) : ∀ d i : Nat, x.length = i + d →
    ∃ b, Ev (fun k => cambiumref04_Same.l0 k x y (x.length : Int) (i : Int)) b ∧ (b = true ↔ x.drop i = y.drop i) := by
  intro d
  induction d with
  | zero =>
    intro i hi
    refine ⟨true, Ev.step (fun k => by rw [cambiumref04_Same.l0]) (Ev.ifn (by omega) (Ev.const rfl)), ?_⟩
    rw [List.drop_of_length_le (by omega), List.drop_of_length_le (by omega)]; simp
  | succ d ih =>
    intro i hi
    have h1 : i < x.length := by omega
    have h2 : i < y.length := by omega
    obtain ⟨b, hb, hbi⟩ := ih (i + 1) (by omega)
    rw [List.drop_eq_getElem_cons h1, List.drop_eq_getElem_cons h2]
    by_cases hk : x[i] = y[i]
    · refine ⟨b, Ev.step (fun k => by rw [cambiumref04_Same.l0]) (Ev.ifp (by omega) (Ev.ifp (by omega) (Ev.ifp (by omega) (Ev.ifp (by omega) (Ev.ifn ?_ ?_))))), ?_⟩
      · rw [rd_get x i h1, rd_get y i h2, hk]; simp
      · rw [w64 (by omega) (by omega)]; exact hb
      · rw [hbi, List.cons.injEq]; exact ⟨fun h => ⟨hk, h⟩, fun h => h.2⟩
    · refine ⟨false, Ev.step (fun k => by rw [cambiumref04_Same.l0]) (Ev.ifp (by omega) (Ev.ifp (by omega) (Ev.ifp (by omega) (Ev.ifp (by omega) (Ev.ifp ?_ (Ev.const rfl)))))), ?_⟩
      · rw [rd_get x i h1, rd_get y i h2]
        by_cases h3 : (x[i]).f0.toList = (y[i]).f0.toList
        · have h4 : (x[i]).f1.toList ≠ (y[i]).f1.toList := fun h4 => hk (it_ext h3 h4)
          simp [h4]
        · simp [h3]
      · rw [List.cons.injEq]; exact ⟨fun h => (by cases h), fun h => absurd h.1 hk⟩
theorem same_f (x y : List It) (hl : x.length ≤ 9223372036854775806) : ∃ b, Ev (fun k => cambiumref04_Same.f k x y) b ∧ (b = true ↔ x = y) := by
  unfold cambiumref04_Same.f
  by_cases he : x.length = y.length
  · obtain ⟨b, h1, h2⟩ := same_l0 x y hl he x.length 0 (by omega)
    exact ⟨b, Ev.ifp (by omega) h1, by simpa using h2⟩
  · refine ⟨false, Ev.ifn (by omega) (Ev.const rfl), ?_⟩
    simp only [Bool.false_eq_true, false_iff]
    rintro rfl; exact he rfl
end Go.Proofs.YtfkofbabeghgkaaGreat.Z
end
