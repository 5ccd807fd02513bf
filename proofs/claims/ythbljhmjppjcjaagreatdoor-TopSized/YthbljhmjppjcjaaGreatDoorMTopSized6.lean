/- TopSized: at every input the law's function returns true and leaves its arguments as they were; no condition beyond the row's own. Part 6 of 6: this session's own texts, laid together. -/
import Derived.Test.YthbljhmjppjcjaaGreatDoorMB1
import Derived.StillTailTactics
import Derived.Laws.CopyOwn
import Derived.Laws.LoneSync
import Derived.Test.YthbljhmjppjcjaaGreatDoorMB3
import Derived.Test.YthbljhmjppjcjaaGreatDoorMB4
import Derived.Test.YthbljhmjppjcjaaGreatDoorMB5
import Derived.DataShut
import Derived.Test.YthbljhmjppjcjaaGreatDoorCards
import Derived.Test.YthbljhmjppjcjaaGreatDoorTie
import Derived.Deep.DeepHandedRow
import Derived.WalkKit
import Derived.ProofKit
import Derived.OpenShut
import Derived.ShutString
import Derived.ChangeOld
import Derived.Below
import Derived.SizedLaws
import Derived.Carry
section
namespace Go.Proofs.YthbljhmjppjcjaaGreatDoor.Z
open Go.RowKit Go.Proofs.YthbljhmjppjcjaaGreatDoorW.PrintWords Go.Proofs.YthbljhmjppjcjaaGreatDoorW.PrintLast Go.Proofs.YthbljhmjppjcjaaGreatDoorW.PrintMore
attribute [local go_sem] max2_int min2_int max_two min_two max_three min_three max_four min_four   -- for this text's walks alone
set_option linter.unusedVariables false
set_option linter.unusedSimpArgs false
def bits_RotateLeft32.f (a0 : Int) (a1 : Int) : Option (Int) := if 0 ≤ (Go.bits .and .u64 (IntKind.u64.wrap (a1)) 31) then (if 0 ≤ (IntKind.u64.wrap (32 - (Go.bits .and .u64 (IntKind.u64.wrap (a1)) 31))) then (some (Go.bits .or .u32 (shl .u32 a0 (Go.bits .and .u64 (IntKind.u64.wrap (a1)) 31)) (shr .u32 a0 (IntKind.u64.wrap (32 - (Go.bits .and .u64 (IntKind.u64.wrap (a1)) 31)))))) else (none)) else (none)
set_option maxHeartbeats 8000000 in
set_option maxRecDepth 100000 in
theorem bits_RotateLeft32.calls (a0 : Int) (a1 : Int) (r : Int) (w : World) (h : bits_RotateLeft32.f a0 a1 = some r) :
  Calls Tryz.prog 91 #[.int .u32 a0, .int .i64 a1] w fun e w' => e = .returned (.int .u32 r) ∧ Drawn0 w w' := by
 have H : (if 0 ≤ (Go.bits .and .u64 (IntKind.u64.wrap (a1)) 31) then (if 0 ≤ (IntKind.u64.wrap (32 - (Go.bits .and .u64 (IntKind.u64.wrap (a1)) 31))) then (some (Go.bits .or .u32 (shl .u32 a0 (Go.bits .and .u64 (IntKind.u64.wrap (a1)) 31)) (shr .u32 a0 (IntKind.u64.wrap (32 - (Go.bits .and .u64 (IntKind.u64.wrap (a1)) 31)))))) else (none)) else (none)) = some r := h
 clear h
 obtain ⟨ji3, hji3⟩ : ∃ j_ : Int, (Go.bits .and .u64 (IntKind.u64.wrap (a1)) 31) = j_ := ⟨_, rfl⟩
 replace H : (if 0 ≤ (ji3) then (if 0 ≤ (IntKind.u64.wrap (32 - (ji3))) then (some (Go.bits .or .u32 (shl .u32 a0 (ji3)) (shr .u32 a0 (IntKind.u64.wrap (32 - (ji3)))))) else (none)) else (none)) = some r := by first | (rw [hji3] at H; exact H) | (simp only [hji3] at H ⊢; exact H)
 by_cases c4 : 0 ≤ (ji3)
 ·rw [if_pos c4] at H
  have c4b0 := eq_true c4
  have c4b1 : decide (0 ≤ (ji3)) = true := decide_eq_true c4
  clear c4
  obtain ⟨ji5, hji5⟩ : ∃ j_ : Int, (shl .u32 a0 (ji3)) = j_ := ⟨_, rfl⟩
  replace H : (if 0 ≤ (IntKind.u64.wrap (32 - (ji3))) then (some (Go.bits .or .u32 (ji5) (shr .u32 a0 (IntKind.u64.wrap (32 - (ji3)))))) else (none)) = some r := by first | (rw [hji5] at H; exact H) | (simp only [hji5] at H ⊢; exact H)
  have hji5_ : (IntKind.u32.wrap (a0 * 2 ^ min (ji3).toNat 32)) = ji5 := hji5
  have hji5z : (ji3) ≤ 32 → (IntKind.u32.wrap (a0 * 2 ^ (ji3).toNat)) = ji5 := shl_small hji5
  obtain ⟨ji6, hji6⟩ : ∃ j_ : Int, (IntKind.u64.wrap (32 - (ji3))) = j_ := ⟨_, rfl⟩
  replace H : (if 0 ≤ (ji6) then (some (Go.bits .or .u32 (ji5) (shr .u32 a0 (ji6)))) else (none)) = some r := by first | (rw [hji6] at H; exact H) | (simp only [hji6] at H ⊢; exact H)
  by_cases c7 : 0 ≤ (ji6)
  ·rw [if_pos c7] at H
   have c7b0 := eq_true c7
   have c7b1 : decide (0 ≤ (ji6)) = true := decide_eq_true c7
   clear c7
   obtain ⟨ji8, hji8⟩ : ∃ j_ : Int, (shr .u32 a0 (ji6)) = j_ := ⟨_, rfl⟩
   replace H : (some (Go.bits .or .u32 (ji5) (ji8))) = some r := by first | (rw [hji8] at H; exact H) | (simp only [hji8] at H ⊢; exact H)
   have hji8_ : (a0 / 2 ^ min (ji6).toNat 32) = ji8 := hji8
   have hji8z : (ji6) ≤ 32 → (a0 / 2 ^ (ji6).toNat) = ji8 := shr_small hji8
   obtain rfl := Option.some.inj H
   go_enter Tryz.func91, Tryz.ntmps91
   go_wp2
   go_ret
   exact ⟨by first | rfl | (simp; done) | (simp only [← hji3, ← hji5, ← hji6, ← hji8] <;> (first | rfl | simp)) | (simp [*]; done), by repeat (first | exact Drawn0.refl _ | apply Drawn0.step)⟩
  rw [if_neg c7] at H
  exact absurd H (by simp)
 rw [if_neg c4] at H
 exact absurd H (by simp)
def hash_right.f (a0 : Int) (a1 : Int) : Option (Int) := (bits_RotateLeft32.f a0 (wrap64 (-a1))).bind fun t106 => (some t106)
set_option maxHeartbeats 8000000 in
set_option maxRecDepth 100000 in
theorem hash_right.calls (a0 : Int) (a1 : Int) (r : Int) (w : World) (h : hash_right.f a0 a1 = some r) :
  Calls Tryz.prog 65 #[.int .u32 a0, .int .i64 a1] w fun e w' => e = .returned (.int .u32 r) ∧ Drawn0 w w' := by
 have H : ((bits_RotateLeft32.f a0 (wrap64 (-a1))).bind fun t106 => (some t106)) = some r := h
 clear h
 replace H := Option.bind_eq_some_iff.mp H
 obtain ⟨t106, A30, H⟩ := H
 replace H : (some t106) = some r := H
 have A3 := Aside0.mk A30
 clear A30
 obtain rfl := Option.some.inj H
 go_enter Tryz.func65, Tryz.ntmps65
 go_wp2_with (first | ((with_reducible refine gate_callee (f := 91) rfl ?_); refine gl_ (some 8) Tryz.func91 #[.int .u32 a0, .int .i64 (wrap64 (-a1))] ?_; (with_reducible refine (bits_RotateLeft32.calls a0 (wrap64 (-a1)) t106 _ A3.out).mono ?_); rintro e w' ⟨rfl, ⟨nd, rfl⟩⟩; refine ⟨_, rfl, ?_⟩))
 go_ret
 exact ⟨by first | rfl | (simp; done) | (simp [*]; done), by repeat (first | exact Drawn0.refl _ | apply Drawn0.step)⟩
end Go.Proofs.YthbljhmjppjcjaaGreatDoor.Z
end

section
/- hash.Sum at one block: the words, the rounds. -/
namespace Go.Proofs.YthbljhmjppjcjaaGreatDoor.Z
open Go.RowKit Go.Proofs.YthbljhmjppjcjaaGreatDoorW.PrintWords Go.Proofs.YthbljhmjppjcjaaGreatDoorW.PrintLast Go.Proofs.YthbljhmjppjcjaaGreatDoorW.PrintMore
set_option linter.unusedVariables false
set_option linter.unusedSimpArgs false
def rot (x k : Int) : Int := (hash_right.f x k).getD 0
theorem rot_some (x k : Int) (h : decide (0 ≤ (Go.bits .and .u64 (IntKind.u64.wrap (wrap64 (-k))) 31)) && decide (0 ≤ (IntKind.u64.wrap (32 - (Go.bits .and .u64 (IntKind.u64.wrap (wrap64 (-k))) 31)))) = true) : hash_right.f x k = some (rot x k) := by
  simp only [Bool.and_eq_true, decide_eq_true_eq] at h
  unfold rot hash_right.f bits_RotateLeft32.f
  rw [if_pos h.1, if_pos h.2]
  rfl
set_option maxRecDepth 100000 in
theorem rotl_same (a0 a1 r : Int) (w : World) (h : bits_RotateLeft32.f a0 a1 = some r) :
    Calls Tryz.prog 91 #[.int .u32 a0, .int .i64 a1] w fun e w' => e = .returned (.int .u32 r) ∧ w' = w := by
  have H : (if 0 ≤ (Go.bits .and .u64 (IntKind.u64.wrap (a1)) 31) then (if 0 ≤ (IntKind.u64.wrap (32 - (Go.bits .and .u64 (IntKind.u64.wrap (a1)) 31))) then (some (Go.bits .or .u32 (shl .u32 a0 (Go.bits .and .u64 (IntKind.u64.wrap (a1)) 31)) (shr .u32 a0 (IntKind.u64.wrap (32 - (Go.bits .and .u64 (IntKind.u64.wrap (a1)) 31)))))) else (none)) else (none)) = some r := h
  clear h
  obtain ⟨ji3, hji3⟩ : ∃ j_ : Int, (Go.bits .and .u64 (IntKind.u64.wrap (a1)) 31) = j_ := ⟨_, rfl⟩
  simp only [hji3] at H
  by_cases c4 : 0 ≤ (ji3)
  · rw [if_pos c4] at H
    have c4b0 := eq_true c4
    have c4b1 : decide (0 ≤ (ji3)) = true := decide_eq_true c4
    clear c4
    obtain ⟨ji5, hji5⟩ : ∃ j_ : Int, (shl .u32 a0 (ji3)) = j_ := ⟨_, rfl⟩
    simp only [hji5] at H
    have hji5_ : (IntKind.u32.wrap (a0 * 2 ^ min (ji3).toNat 32)) = ji5 := hji5
    have hji5z : (ji3) ≤ 32 → (IntKind.u32.wrap (a0 * 2 ^ (ji3).toNat)) = ji5 := shl_small hji5
    obtain ⟨ji6, hji6⟩ : ∃ j_ : Int, (IntKind.u64.wrap (32 - (ji3))) = j_ := ⟨_, rfl⟩
    simp only [hji6] at H
    by_cases c7 : 0 ≤ (ji6)
    · rw [if_pos c7] at H
      have c7b0 := eq_true c7
      have c7b1 : decide (0 ≤ (ji6)) = true := decide_eq_true c7
      clear c7
      obtain ⟨ji8, hji8⟩ : ∃ j_ : Int, (shr .u32 a0 (ji6)) = j_ := ⟨_, rfl⟩
      simp only [hji8] at H
      have hji8_ : (a0 / 2 ^ min (ji6).toNat 32) = ji8 := hji8
      have hji8z : (ji6) ≤ 32 → (a0 / 2 ^ (ji6).toNat) = ji8 := shr_small hji8
      obtain rfl := Option.some.inj H
      go_enter Tryz.func91, Tryz.ntmps91
      go_wp2
      go_ret
      exact ⟨by first | rfl | (simp; done) | (simp only [← hji3, ← hji5, ← hji6, ← hji8] <;> (first | rfl | simp)) | (simp [*]; done), rfl⟩
    · rw [if_neg c7] at H
      exact absurd H (by simp)
  · rw [if_neg c4] at H
    exact absurd H (by simp)
set_option maxRecDepth 100000 in
theorem right_same (a0 a1 r : Int) (w : World) (h : hash_right.f a0 a1 = some r) :
    Calls Tryz.prog 65 #[.int .u32 a0, .int .i64 a1] w fun e w' => e = .returned (.int .u32 r) ∧ w' = w := by
  have H : ((bits_RotateLeft32.f a0 (wrap64 (-a1))).bind fun t106 => (some t106)) = some r := h
  clear h
  replace H := Option.bind_eq_some_iff.mp H
  obtain ⟨t106, A30, H⟩ := H
  have A3 := Aside0.mk A30
  clear A30
  obtain rfl := Option.some.inj H
  go_enter Tryz.func65, Tryz.ntmps65
  go_wp2_with (go_at_call 91; refine (rotl_same a0 (wrap64 (-a1)) t106 _ A3.out).mono ?_; rintro e w' ⟨rfl, rfl⟩)
  go_ret
  exact ⟨rfl, rfl⟩
/-- An array of 32-bit words in memory. -/
def ws (t : TypeId) (l : List Int) : Obj := .cells (l.map (fun x => Value.int .u32 x)).toArray t (0, 0)
theorem ws_cell {w : World} {g : Nat} {t : TypeId} {l : List Int} (h : w.heap[g]? = some (ws t l)) (i : Nat) (hi : i < l.length) : w.cell? ⟨g, i, none⟩ = some (.int .u32 (l.getD i 0)) := by
  rw [blk_cell h, List.getElem?_toArray, List.getElem?_map, List.getD_eq_getElem?_getD, List.getElem?_eq_getElem hi]
  rfl
theorem ws_set {w : World} {g : Nat} {t : TypeId} {l : List Int} (h : w.heap[g]? = some (ws t l)) (i : Nat) (x : Int) : (w.setCell ⟨g, i, none⟩ (.int .u32 x)).heap[g]? = some (ws t (l.set i x)) := by
  rw [blk_set h]
  congr 2
  simp [ws]
theorem Step.ws {g : Nat} {w w1 : World} {t : TypeId} {l : List Int} (h : Step g w w1 (ws t l)) (i : Nat) (x : Int) : Step g w (w1.setCell ⟨g, i, none⟩ (.int .u32 x)) (ws t (l.set i x)) :=
  ⟨ws_set h.1 i x, h.2.1.set_ i _, fun B hB => (h.2.2 B hB).setCell (p := ⟨g, i, none⟩) hB _⟩
theorem ws_info {p : Option Nat} {n : Nat} {l : List Int} (h : p = some n) (hl : l.length = n) : p = some (l.map (fun x => Value.int .u32 x)).toArray.size := by
  rw [h]
  simp [hl]
theorem ws_one (l : List Int) : ((l.map (fun x => Value.int .u32 x)).toArray).all (·.oneCell') = true := by
  simp [Value.oneCell']
def rd (l : List Int) (i : Int) : Int := l.getD i.toNat 0
def wv (s : ByteArray) (t i x : Int) : Int := Go.bits .or .u32 (IntKind.u32.wrap (x * 256)) (IntKind.u32.wrap (bt s (4 * t + i)))
def winner (s : ByteArray) (t : Int) : Nat → Int → List Int → List Int
  | 0, _, l => l
  | d + 1, i, l => winner s t d (i + 1) (l.set t.toNat (wv s t i (rd l t)))
def wouter (s : ByteArray) : Nat → Int → List Int → List Int
  | 0, _, l => l
  | d + 1, t, l => wouter s d (t + 1) (winner s t 4 0 l)
def wnew (l : List Int) (a b c d : Int) : Int := (rd l a + rd l b + Go.bits .xor .u32 (Go.bits .xor .u32 (rot (rd l c) 7) (rot (rd l c) 18)) (rd l c / 8) + Go.bits .xor .u32 (Go.bits .xor .u32 (rot (rd l d) 17) (rot (rd l d) 19)) (rd l d / 1024)) % 4294967296
def wext : Nat → Int → List Int → List Int
  | 0, _, l => l
  | d + 1, t, l => wext d (t + 1) (l.set t.toNat (wnew l (t - 16) (t - 7) (t - 15) (t - 2)))
def wordsF (s : ByteArray) : List Int := wext 48 16 (wouter s 16 0 (List.replicate 64 0))
theorem winner_len (s : ByteArray) (t : Int) : ∀ d i l, (winner s t d i l).length = l.length
  | 0, _, _ => rfl
  | d + 1, i, l => by rw [winner, winner_len s t d]; simp
theorem ws_at {w : World} {g : Nat} {t : TypeId} {l : List Int} (h : w.heap[g]? = some (ws t l)) (i : Int) (h0 : 0 ≤ i) (hi : i < l.length) : w.cell? ⟨g, i.toNat, none⟩ = some (.int .u32 (rd l i)) := ws_cell h i.toNat (by omega)
set_option maxRecDepth 100000 in
set_option maxHeartbeats 3200000 in
theorem words_calls (s : ByteArray) (hs : s.size = 64) (w : World) :
    Calls Tryz.prog 64 #[.string s] w fun e w' => e = .returned (.agg ((wordsF s).map (fun x => Value.int .u32 x)).toArray) ∧ Below w.heap.size w w' := by
  have HA := Aside0.mk hs
  clear hs
  go_enter Tryz.func64, Tryz.ntmps64
  go_wp2_with ((with_reducible refine gate_dst (N := 2) rfl ?_); refine box_event ?hg (N := 2) ?hd (cs := ((List.replicate 64 (0 : Int)).map (fun x => Value.int .u32 x)).toArray) (t := 150) ?hr ?_; (case hd => rfl); (case hg => rfl); (case hr => first | (go_simp; done) | (go_simp; rfl)); intro g hg w1 hx hb; have BX := Aside0.mk (show w1.heap[g]? = some (ws 150 (List.replicate 64 0)) from hx); have BB := Aside0.mk hb; have GG := Aside0.mk (show w.heap.size ≤ g by omega); clear hx hb hg)
  go_loopw [8] (fun i wr => ∃ (x : Int) (l : List Int), i = .int .i64 x ∧ Aside0 (0 ≤ x ∧ x ≤ 16) ∧ Aside0 (Below w.heap.size w wr ∧ wr.heap[g]? = some (ws 150 l) ∧ l.length = 64) ∧ Aside0 (wouter s (16 - x.toNat) x l = wouter s 16 0 (List.replicate 64 0))) (fun i _ => 16 - (intOf i).toNat)
  case atStart => exact ⟨0, _, rfl, ⟨by omega⟩, ⟨BB.out, BX.out, by simp⟩, ⟨rfl⟩⟩
  case round =>
    obtain ⟨x, l, rfl, HX, HS, HF⟩ := hrel
    obtain ⟨hx0, hx1⟩ := HX.out
    have hsz := HA.out
    by_cases hlt : x < 16
    · have hlt2 : decide (x < 16) = true := decide_eq_true hlt
      have L := Aside0.mk hlt
      clear hlt hsz hx0 hx1 BX BB
      go_wp2
      go_loopw [11] (fun i wr => ∃ (y : Int) (l' : List Int), i = .int .i64 y ∧ Aside0 (0 ≤ y ∧ y ≤ 4) ∧ Aside0 (Below w.heap.size w wr ∧ wr.heap[g]? = some (ws 150 l') ∧ l'.length = 64) ∧ Aside0 (winner s x (4 - y.toNat) y l' = winner s x 4 0 l)) (fun i _ => 4 - (intOf i).toNat)
      case atStart => exact ⟨0, _, rfl, ⟨by omega⟩, HS, ⟨rfl⟩⟩
      case round =>
        obtain ⟨y, l', rfl, HY, HT, HG⟩ := hrel
        obtain ⟨hy0, hy1⟩ := HY.out
        have hx := HX.out
        have hsz := HA.out
        have hl := L.out
        have hll := HT.out.2.2
        by_cases hly : y < 4
        · have hly2 : decide (y < 4) = true := decide_eq_true hly
          have q0 : ((0 : Int) ≤ x) = True := eq_true (by omega)
          have q1 : (x < (64 : Int)) = True := eq_true (by omega)
          have e0 : IntKind.i64.wrap (4 * x) = 4 * x := by rw [IntKind.wrap_i64]; omega
          have e1 : IntKind.i64.wrap (4 * x + y) = 4 * x + y := by rw [IntKind.wrap_i64]; omega
          have ew : wrap64 (y + 1) = y + 1 := by unfold wrap64; omega
          have q2 : ((0 : Int) ≤ 4 * x + y) = True := eq_true (by omega)
          have q3 : (4 * x + y < (s.size : Int)) = True := eq_true (by omega)
          have hbt := bt_at s (4 * x + y)
          have hF : winner s x (4 - (y + 1).toNat) (y + 1) (l'.set x.toNat (wv s x y (rd l' x))) = winner s x 4 0 l := by
            have h := HG.out
            rw [show 4 - y.toNat = (4 - (y + 1).toNat) + 1 by omega, winner] at h
            exact h
          have HF' := Aside0.mk hF
          have EW := Aside0.mk ew
          have LY := Aside0.mk hly
          have HD := Aside0.mk (show Below w.heap.size w wr.drew ∧ wr.drew.heap[g]? = some (ws 150 l') ∧ l'.length = 64 from ⟨below_drew1 HT.out.1, blk_drew HT.out.2.1, HT.out.2.2⟩)
          have k0 := ws_at HT.out.2.1 x (by omega) (by omega)
          clear hF hx hsz hl hll hly ew hy0 hy1
          go_wp2
          go_still_tail 14, (by kernel_rfl)
          change wpList _ _ _ _ _ wr.drew
          obtain ⟨wd, hwd⟩ : ∃ wd, wd = wr.drew := ⟨_, rfl⟩
          rw [← hwd] at HD ⊢
          have k1 := ws_at HD.out.2.1 x (of_eq_true q0) (by have := HD.out.2.2; have := of_eq_true q1; omega)
          have y1 : wd.frozen? ⟨g, x.toNat, none⟩ = false := blk_frozen HD.out.2.1 _
          clear hwd k0
          go_wp2
          have hl := LY.out
          have hy := HY.out
          go_roundw
          case rel => exact ⟨y + 1, _, by rw [EW.out], ⟨by omega⟩, ⟨HD.out.1.setCell (p := ⟨g, x.toNat, none⟩) GG.out _, ws_set HD.out.2.1 _ _, by rw [List.length_set]; exact HD.out.2.2⟩, HF'⟩
          case measure =>
            simp [EW.out, intOf]
            omega
        · have hge : decide (y < 4) = false := decide_eq_false hly
          have hF := HG.out
          rw [show 4 - y.toNat = 0 by omega, winner] at hF
          have hF2 := HF.out
          rw [show 16 - x.toNat = (16 - (x + 1).toNat) + 1 by omega, wouter, ← hF] at hF2
          have HF' := Aside0.mk hF2
          have ew : wrap64 (x + 1) = x + 1 := by unfold wrap64; omega
          have EW := Aside0.mk ew
          clear hx hsz hl hll hly hy0 hy1 hF hF2 ew
          go_wp2
          have hl := L.out
          have hx := HX.out
          go_roundw
          case rel => exact ⟨x + 1, _, by rw [EW.out], ⟨by omega⟩, HT, HF'⟩
          case measure =>
            simp [EW.out, intOf]
            omega
    · have hge : decide (x < 16) = false := decide_eq_false hlt
      have hF := HF.out
      rw [show 16 - x.toNat = 0 by omega, wouter] at hF
      obtain ⟨L0, hL0⟩ : ∃ L0, L0 = wouter s 16 0 (List.replicate 64 0) := ⟨_, rfl⟩
      rw [← hL0] at hF
      have HL0 := Aside0.mk hL0
      subst hF
      clear hx0 hx1 hlt hsz hL0 HF BX BB
      go_wp2
      go_loopw [5] (fun i wr => ∃ (y : Int) (l' : List Int), i = .int .i64 y ∧ Aside0 (16 ≤ y ∧ y ≤ 64) ∧ Aside0 (Below w.heap.size w wr ∧ wr.heap[g]? = some (ws 150 l') ∧ l'.length = 64) ∧ Aside0 (wext (64 - y.toNat) y l' = wext 48 16 l)) (fun i _ => 64 - (intOf i).toNat)
      case atStart => exact ⟨16, _, rfl, ⟨by omega⟩, HS, ⟨rfl⟩⟩
      case round =>
        obtain ⟨y, l', rfl, HY, HT, HG⟩ := hrel
        obtain ⟨hy0, hy1⟩ := HY.out
        have hll := HT.out.2.2
        by_cases hly : y < 64
        · have hly2 : decide (y < 64) = true := decide_eq_true hly
          have q0 : ((0 : Int) ≤ y) = True := eq_true (by omega)
          have q1 : (y < (64 : Int)) = True := eq_true (by omega)
          obtain ⟨j15, hj15⟩ : ∃ j, j = y - 15 := ⟨_, rfl⟩
          have e15 : IntKind.i64.wrap (y - 15) = j15 := by rw [IntKind.wrap_i64]; omega
          have a15 : ((0 : Int) ≤ j15) = True := eq_true (by omega)
          have b15 : (j15 < (64 : Int)) = True := eq_true (by omega)
          have k15 := ws_at HT.out.2.1 j15 (by omega) (by omega)
          obtain ⟨j2, hj2⟩ : ∃ j, j = y - 2 := ⟨_, rfl⟩
          have e2 : IntKind.i64.wrap (y - 2) = j2 := by rw [IntKind.wrap_i64]; omega
          have a2 : ((0 : Int) ≤ j2) = True := eq_true (by omega)
          have b2 : (j2 < (64 : Int)) = True := eq_true (by omega)
          have k2 := ws_at HT.out.2.1 j2 (by omega) (by omega)
          obtain ⟨j16, hj16⟩ : ∃ j, j = y - 16 := ⟨_, rfl⟩
          have e16 : IntKind.i64.wrap (y - 16) = j16 := by rw [IntKind.wrap_i64]; omega
          have a16 : ((0 : Int) ≤ j16) = True := eq_true (by omega)
          have b16 : (j16 < (64 : Int)) = True := eq_true (by omega)
          have k16 := ws_at HT.out.2.1 j16 (by omega) (by omega)
          obtain ⟨j7, hj7⟩ : ∃ j, j = y - 7 := ⟨_, rfl⟩
          have e7 : IntKind.i64.wrap (y - 7) = j7 := by rw [IntKind.wrap_i64]; omega
          have a7 : ((0 : Int) ≤ j7) = True := eq_true (by omega)
          have b7 : (j7 < (64 : Int)) = True := eq_true (by omega)
          have k7 := ws_at HT.out.2.1 j7 (by omega) (by omega)
          have ew : wrap64 (y + 1) = y + 1 := by unfold wrap64; omega
          have EW := Aside0.mk ew
          have LY := Aside0.mk hly
          have hF := HG.out
          rw [show 64 - y.toNat = (64 - (y + 1).toNat) + 1 by omega, wext, ← hj16, ← hj7, ← hj15, ← hj2] at hF
          have HF' := Aside0.mk hF
          clear hy0 hy1 hll hly ew hj16 hj7 hj15 hj2 hF
          go_wp2
          go_still (by kernel_rfl)
          change Exit.then _ _ _ _ wr.drew
          have HD := Aside0.mk (show Below w.heap.size w wr.drew ∧ wr.drew.heap[g]? = some (ws 150 l') ∧ l'.length = 64 from ⟨below_drew1 HT.out.1, blk_drew HT.out.2.1, HT.out.2.2⟩)
          obtain ⟨wd, hwd⟩ : ∃ wd, wd = wr.drew := ⟨_, rfl⟩
          rw [← hwd] at HD ⊢
          clear hwd k15 k2 k16 k7
          have k16 := ws_at HD.out.2.1 j16 (of_eq_true a16) (by have := HD.out.2.2; have := of_eq_true b16; omega)
          have k7 := ws_at HD.out.2.1 j7 (of_eq_true a7) (by have := HD.out.2.2; have := of_eq_true b7; omega)
          go_wp2
          go_still_tail 29, (by kernel_rfl)
          still_call (right_same _ 7 _ _ (rot_some _ 7 (by kernel_rfl)))
          repeat still_step
          still_call (right_same _ 18 _ _ (rot_some _ 18 (by kernel_rfl)))
          repeat still_step
          still_call (right_same _ 17 _ _ (rot_some _ 17 (by kernel_rfl)))
          repeat still_step
          still_call (right_same _ 19 _ _ (rot_some _ 19 (by kernel_rfl)))
          repeat still_step
          refine wpStill_nil ?_
          change wpList _ _ _ _ _ wd.drew
          have HE := Aside0.mk (show Below w.heap.size w wd.drew ∧ wd.drew.heap[g]? = some (ws 150 l') ∧ l'.length = 64 from ⟨below_drew1 HD.out.1, blk_drew HD.out.2.1, HD.out.2.2⟩)
          obtain ⟨we, hwe⟩ : ∃ we, we = wd.drew := ⟨_, rfl⟩
          rw [← hwe] at HE ⊢
          clear hwe k16 k7
          have k1 := ws_at HE.out.2.1 y (of_eq_true q0) (by have := HE.out.2.2; have := of_eq_true q1; omega)
          have y1 : we.frozen? ⟨g, y.toNat, none⟩ = false := blk_frozen HE.out.2.1 _
          go_wp2
          have hl := LY.out
          have hy := HY.out
          go_roundw
          case rel => exact ⟨y + 1, _, by rw [EW.out], ⟨by omega⟩, ⟨HE.out.1.setCell (p := ⟨g, y.toNat, none⟩) GG.out _, ws_set HE.out.2.1 _ _, by rw [List.length_set]; exact HE.out.2.2⟩, HF'⟩
          case measure =>
            simp [EW.out, intOf]
            omega
        · have hge : decide (y < 64) = false := decide_eq_false hly
          have hF := HG.out
          rw [show 64 - y.toNat = 0 by omega, wext] at hF
          have HF' := Aside0.mk hF
          have HI := Aside0.mk (ws_info (l := l') (by kernel_rfl : (Tryz.prog.info? 150).map (·.size) = some 64) hll)
          clear hF hy0 hy1 hll hly
          go_wp2_with (first
            | ((with_reducible refine gate_dst (N := 71) rfl ?_); refine wpList_load_row rfl 150 _ rfl g rfl 150 _ (0, 0) _ HT.out.2.1 Tryz.underlying150 rfl HI.out ?_)
            | (refine wpList_store_row rfl 150 _ _ rfl g _ rfl rfl 150 _ HT.out.2.1 HI.out rfl (ws_one l') ?_))
          (try simp only [Exit.inBlock, Exit.then])
          refine bodyPost_ret (results_cell_row rfl _ _ g 150 _ (0, 0) _ rfl (setRow_heap _ g _ _ 150 (0, 0) HT.out.2.1) Tryz.underlying150 rfl HI.out) rfl ?_
          exact ⟨by rw [HF'.out, HL0.out]; rfl, below_setRow HT.out.1 GG.out _⟩
end Go.Proofs.YthbljhmjppjcjaaGreatDoor.Z
end

section
/- hash.state.take: one block's rounds. -/
namespace Go.Proofs.YthbljhmjppjcjaaGreatDoor.Z
open Go.RowKit Go.Proofs.YthbljhmjppjcjaaGreatDoorW.PrintWords Go.Proofs.YthbljhmjppjcjaaGreatDoorW.PrintLast Go.Proofs.YthbljhmjppjcjaaGreatDoorW.PrintMore
set_option linter.unusedVariables false
set_option linter.unusedSimpArgs false
theorem wordsF_len (s : ByteArray) : (wordsF s).length = 64 := by
  have h1 : ∀ d t l, (wouter s d t l).length = l.length := by
    intro d
    induction d with
    | zero => intro t l; rfl
    | succ d ih => intro t l; rw [wouter, ih, winner_len]
  have h2 : ∀ d t l, (wext d t l).length = l.length := by
    intro d
    induction d with
    | zero => intro t l; rfl
    | succ d ih => intro t l; rw [wext, ih, List.length_set]
  rw [wordsF, h2, h1]
  rfl
theorem agg_at {l : List Int} {V : Array Value} (h : V = (l.map (fun x => Value.int .u32 x)).toArray) (i : Int) (h0 : 0 ≤ i) (hi : i < l.length) : V[i.toNat]? = some (.int .u32 (rd l i)) := by
  subst h
  rw [List.getElem?_toArray, List.getElem?_map, rd, List.getD_eq_getElem?_getD, List.getElem?_eq_getElem (show i.toNat < l.length by omega)]
  rfl
theorem index_words {V : Array Value} {x v : Int} (h0 : 0 ≤ x) (h1 : x < 64) (hV : V[x.toNat]? = some (.int .u32 v)) (W : World) : (Instr.index 150 (.agg V) (.int .i64 x)).run Tryz.prog W = .ok (.int .u32 v) W := by
  have hs : (Tryz.prog.info? 22).map (·.size) = some 1 := by kernel_rfl
  cases hq : Tryz.prog.info? 22 with
  | none => simp [hq] at hs
  | some i =>
    have hi : i.size = 1 := by simpa [hq] using hs
    simp [Instr.index, asIntOf, run_underlying Tryz.underlying150, go_sem, h0, h1, sizeOf, typeInfo, hq, hi, Sem.run_bind]
    rw [hV]
    rfl
theorem index_eight {V : Array Value} {x v : Int} (h0 : 0 ≤ x) (h1 : x < 8) (hV : V[x.toNat]? = some (.int .u32 v)) (W : World) : (Instr.index 97 (.agg V) (.int .i64 x)).run Tryz.prog W = .ok (.int .u32 v) W := by
  have hs : (Tryz.prog.info? 22).map (·.size) = some 1 := by kernel_rfl
  cases hq : Tryz.prog.info? 22 with
  | none => simp [hq] at hs
  | some i =>
    have hi : i.size = 1 := by simpa [hq] using hs
    simp [Instr.index, asIntOf, run_underlying Tryz.underlying97, go_sem, h0, h1, sizeOf, typeInfo, hq, hi, Sem.run_bind]
    rw [hV]
    rfl
theorem below_le {A B : Nat} {w w' : World} (h : Below A w w') (hle : B ≤ A) : Below B w w' := ⟨h.os, h.tape, h.output, h.size, fun k hk => h.block k (by omega)⟩
theorem Step.below {g : Nat} {w w1 w2 : World} {o : Obj} (h : Step g w w1 o) (hb : Below w1.heap.size w1 w2) : Step g w w2 o := by
  have hg : g < w1.heap.size := blk_lt h.1
  exact h.trans ⟨blk_below h.1 hb, ⟨hb.size, fun k hk _ _ => hb.block k hk⟩, fun B hB => below_le hb (by omega)⟩
def T1 (K W : List Int) (x e f g z : Int) : Int := IntKind.u32.wrap (IntKind.u32.wrap (IntKind.u32.wrap (IntKind.u32.wrap (z + Go.bits .xor .u32 (Go.bits .xor .u32 (rot e 6) (rot e 11)) (rot e 25)) + Go.bits .xor .u32 g (Go.bits .and .u32 e (Go.bits .xor .u32 f g))) + rd K x) + rd W x)
def T2 (a b c : Int) : Int := (Go.bits .xor .u32 (Go.bits .xor .u32 (rot a 2) (rot a 13)) (rot a 22) + Go.bits .or .u32 (Go.bits .and .u32 a b) (Go.bits .and .u32 c (Go.bits .or .u32 a b))) % 4294967296
structure Sha where (a b c d e f g z : Int)
def rounds (K W : List Int) : Nat → Int → Sha → Sha
  | 0, _, s => s
  | n + 1, x, s => rounds K W n (x + 1) ⟨(T1 K W x s.e s.f s.g s.z + T2 s.a s.b s.c) % 4294967296, s.a, s.b, s.c, (s.d + T1 K W x s.e s.f s.g s.z) % 4294967296, s.e, s.f, s.g⟩
def addF (v : List Int) : Nat → Int → List Int → List Int
  | 0, _, l => l
  | n + 1, x, l => addF v n (x + 1) (l.set x.toNat ((rd l x + rd v x) % 4294967296))
def Sha.list (s : Sha) : List Int := [s.a, s.b, s.c, s.d, s.e, s.f, s.g, s.z]
set_option maxRecDepth 100000 in
set_option maxHeartbeats 6400000 in
theorem take_calls (s : ByteArray) (hs : s.size = 64) (gh gk : Nat) (K : List Int) (hK : K.length = 64) (a0 a1 a2 a3 a4 a5 a6 a7 : Int) (w : World) (hh : w.heap[gh]? = some (ws 98 [a0, a1, a2, a3, a4, a5, a6, a7])) (hk : w.heap[gk]? = some (ws 150 K)) :
    Calls Tryz.prog 39 #[.pointer (some ⟨gh, 0, none⟩), .string s, .pointer (some ⟨gk, 0, none⟩)] w fun e w' => e = .returned (.tuple #[]) ∧ Step gh w w' (ws 98 (addF (rounds K (wordsF s) 64 0 ⟨a0, a1, a2, a3, a4, a5, a6, a7⟩).list 8 0 [a0, a1, a2, a3, a4, a5, a6, a7])) := by
  have HA := Aside0.mk hs
  have HKL := Aside0.mk hK
  have NE := Aside0.mk (show gk ≠ gh by
    intro e
    subst e
    have := hh.symm.trans hk
    simp [ws] at this)
  have HH := Aside0.mk (Step.refl hh)
  have HK := Aside0.mk hk
  have r0 : w.cell? ⟨gh, 0, none⟩ = some (.int .u32 a0) := (blk_cell hh 0).trans rfl
  have r1 : w.cell? ⟨gh, 1, none⟩ = some (.int .u32 a1) := (blk_cell hh 1).trans rfl
  have r2 : w.cell? ⟨gh, 2, none⟩ = some (.int .u32 a2) := (blk_cell hh 2).trans rfl
  have r3 : w.cell? ⟨gh, 3, none⟩ = some (.int .u32 a3) := (blk_cell hh 3).trans rfl
  have r4 : w.cell? ⟨gh, 4, none⟩ = some (.int .u32 a4) := (blk_cell hh 4).trans rfl
  have r5 : w.cell? ⟨gh, 5, none⟩ = some (.int .u32 a5) := (blk_cell hh 5).trans rfl
  have r6 : w.cell? ⟨gh, 6, none⟩ = some (.int .u32 a6) := (blk_cell hh 6).trans rfl
  have r7 : w.cell? ⟨gh, 7, none⟩ = some (.int .u32 a7) := (blk_cell hh 7).trans rfl
  clear hs hK hh hk
  go_enter Tryz.func39, Tryz.ntmps39
  go_wp2
  refine wp_region_still_lit (by kernel_rfl) (by kernel_rfl) ?_
  repeat still_step
  refine wpStill_nil ?_
  change Exit.then _ _ _ _ w.drew
  have HD := Aside0.mk (And.intro HH.out.drew (blk_drew HK.out))
  obtain ⟨wd, hwd⟩ : ∃ wd, wd = w.drew := ⟨_, rfl⟩
  rw [← hwd] at HD ⊢
  clear hwd r0 r1 r2 r3 r4 r5 r6 r7
  go_wp2_with (go_at_call 64; refine (words_calls s HA.out _).mono ?_; rintro e w2 ⟨rfl, hb⟩; have H2 := Aside0.mk (And.intro (HD.out.1.below hb) (blk_below HD.out.2 hb)); obtain ⟨V, hV⟩ : ∃ V : Array Value, V = ((wordsF s).map (fun x => Value.int .u32 x)).toArray := ⟨_, rfl⟩; rw [← hV]; have HV := Aside0.mk hV; clear hb hV)
  go_loopw [6, 7, 8, 9, 10, 11, 12, 13, 54] (fun va vb vc vd ve vf vg vz i wr => ∃ (x a b c d e f g z : Int), i = .int .i64 x ∧ va = .int .u32 a ∧ vb = .int .u32 b ∧ vc = .int .u32 c ∧ vd = .int .u32 d ∧ ve = .int .u32 e ∧ vf = .int .u32 f ∧ vg = .int .u32 g ∧ vz = .int .u32 z ∧ Aside0 (0 ≤ x ∧ x ≤ 64) ∧ Aside0 (Step gh w wr (ws 98 [a0, a1, a2, a3, a4, a5, a6, a7]) ∧ wr.heap[gk]? = some (ws 150 K)) ∧ Aside0 (rounds K (wordsF s) (64 - x.toNat) x ⟨a, b, c, d, e, f, g, z⟩ = rounds K (wordsF s) 64 0 ⟨a0, a1, a2, a3, a4, a5, a6, a7⟩)) (fun _ _ _ _ _ _ _ _ i _ => 64 - (intOf i).toNat)
  case atStart => exact ⟨0, _, _, _, _, _, _, _, _, rfl, rfl, rfl, rfl, rfl, rfl, rfl, rfl, rfl, ⟨by omega⟩, H2, ⟨rfl⟩⟩
  case round =>
    obtain ⟨x, a, b, c, d, e, f, g, z, rfl, rfl, rfl, rfl, rfl, rfl, rfl, rfl, rfl, HX, HS, HF⟩ := hrel
    obtain ⟨hx0, hx1⟩ := HX.out
    by_cases hlt : x < 64
    · have hlt2 : decide (x < 64) = true := decide_eq_true hlt
      have q0 : ((0 : Int) ≤ x) = True := eq_true hx0
      have q1 : (x < (64 : Int)) = True := eq_true hlt
      have q2 := agg_at HV.out x hx0 (by rw [wordsF_len]; exact hlt)
      have k0 := ws_at HS.out.2 x hx0 (by rw [HKL.out]; exact hlt)
      have ix := index_words hx0 hlt q2
      have L := Aside0.mk hlt
      have hF := HF.out
      rw [show 64 - x.toNat = (64 - (x + 1).toNat) + 1 by omega, rounds] at hF
      have HF' := Aside0.mk hF
      have ew : wrap64 (x + 1) = x + 1 := by unfold wrap64; omega
      have EW := Aside0.mk ew
      clear hlt hx0 hx1 hF ew
      go_wp2
      refine wp_region_still_lit (by kernel_rfl) (by kernel_rfl) ?_
      repeat still_step
      still_call (right_same _ 6 _ _ (rot_some _ 6 (by kernel_rfl)))
      repeat still_step
      still_call (right_same _ 11 _ _ (rot_some _ 11 (by kernel_rfl)))
      repeat still_step
      still_call (right_same _ 25 _ _ (rot_some _ 25 (by kernel_rfl)))
      repeat still_step
      refine wpStill_nil ?_
      change Exit.then _ _ _ _ wr.drew
      have HE := Aside0.mk (And.intro HS.out.1.drew (blk_drew HS.out.2))
      obtain ⟨we, hwe⟩ : ∃ we, we = wr.drew := ⟨_, rfl⟩
      rw [← hwe] at HE ⊢
      obtain ⟨t1, ht1⟩ : ∃ t1, t1 = T1 K (wordsF s) x e f g z := ⟨_, rfl⟩
      have ht1' := ht1
      unfold T1 at ht1'
      rw [← ht1']
      have HT1 := Aside0.mk ht1
      clear hwe k0 ix q2 ht1 ht1'
      go_wp2_with (first
        | (go_at_call 65; with_reducible refine (right_same _ 2 _ _ (rot_some _ 2 (by kernel_rfl))).mono ?_; rintro e w' ⟨rfl, rfl⟩)
        | (go_at_call 65; with_reducible refine (right_same _ 13 _ _ (rot_some _ 13 (by kernel_rfl))).mono ?_; rintro e w' ⟨rfl, rfl⟩)
        | (go_at_call 65; with_reducible refine (right_same _ 22 _ _ (rot_some _ 22 (by kernel_rfl))).mono ?_; rintro e w' ⟨rfl, rfl⟩))
      have hl := L.out
      have hx := HX.out
      have hF := HF'.out
      simp only [← HT1.out] at hF
      go_roundw
      case rel => exact ⟨x + 1, _, _, _, _, _, _, _, _, by rw [EW.out], rfl, rfl, rfl, rfl, rfl, rfl, rfl, rfl, ⟨by omega⟩, HE, ⟨hF⟩⟩
      case measure =>
        simp [EW.out, intOf]
        omega
    · have hge : decide (x < 64) = false := decide_eq_false hlt
      have hF := HF.out
      rw [show 64 - x.toNat = 0 by omega, rounds] at hF
      have HF2 := Aside0.mk hF
      clear hlt hx0 hx1 hF HF
      go_wp2
      go_loopw [124] (fun i wr => ∃ (y : Int) (l : List Int), i = .int .i64 y ∧ Aside0 (0 ≤ y ∧ y ≤ 8) ∧ Aside0 (Step gh w wr (ws 98 l) ∧ l.length = 8) ∧ Aside0 (addF (Sha.list ⟨a, b, c, d, e, f, g, z⟩) (8 - y.toNat) y l = addF (Sha.list ⟨a, b, c, d, e, f, g, z⟩) 8 0 [a0, a1, a2, a3, a4, a5, a6, a7])) (fun i _ => 8 - (intOf i).toNat)
      case atStart => exact ⟨0, _, rfl, ⟨by omega⟩, ⟨HS.out.1, rfl⟩, ⟨rfl⟩⟩
      case round =>
        obtain ⟨y, l, rfl, HY, HT, HG⟩ := hrel
        obtain ⟨hy0, hy1⟩ := HY.out
        have hll := HT.out.2
        by_cases hly : y < 8
        · have hly2 : decide (y < 8) = true := decide_eq_true hly
          have q0 : ((0 : Int) ≤ y) = True := eq_true hy0
          have q1 : (y < (8 : Int)) = True := eq_true hly
          have q2 := agg_at (V := #[.int .u32 a, .int .u32 b, .int .u32 c, .int .u32 d, .int .u32 e, .int .u32 f, .int .u32 g, .int .u32 z]) (l := Sha.list ⟨a, b, c, d, e, f, g, z⟩) rfl y hy0 hly
          have ix := index_eight hy0 hly q2
          have hG := HG.out
          rw [show 8 - y.toNat = (8 - (y + 1).toNat) + 1 by omega, addF] at hG
          obtain ⟨X, hX⟩ : ∃ X, X = rd (Sha.list ⟨a, b, c, d, e, f, g, z⟩) y := ⟨_, rfl⟩
          rw [← hX] at ix hG
          have HG' := Aside0.mk hG
          have k0 := ws_at HT.out.1.1 y hy0 (by rw [hll]; exact hly)
          have LY := Aside0.mk hly
          have ew : wrap64 (y + 1) = y + 1 := by unfold wrap64; omega
          have EW := Aside0.mk ew
          clear hly hy0 hy1 hG ew q2 hX hll
          go_wp2
          go_still_tail 9, (by kernel_rfl)
          change wpList _ _ _ _ _ wr.drew
          have HE := Aside0.mk HT.out.1.drew
          obtain ⟨we, hwe⟩ : ∃ we, we = wr.drew := ⟨_, rfl⟩
          rw [← hwe] at HE ⊢
          have k1 := ws_at HE.out.1 y (of_eq_true q0) (by rw [HT.out.2]; exact of_eq_true q1)
          have y1 : we.frozen? ⟨gh, y.toNat, none⟩ = false := blk_frozen HE.out.1 _
          clear hwe k0
          go_wp2
          have hl := LY.out
          have hy := HY.out
          go_roundw
          case rel => exact ⟨y + 1, _, by rw [EW.out], ⟨by omega⟩, ⟨HE.out.ws _ _, by rw [List.length_set]; exact HT.out.2⟩, HG'⟩
          case measure =>
            simp [EW.out, intOf]
            omega
        · have hge : decide (y < 8) = false := decide_eq_false hly
          have hG := HG.out
          rw [show 8 - y.toNat = 0 by omega, addF] at hG
          clear hly hy0 hy1 hll HG
          go_wp2
          go_end0
          exact ⟨rfl, by rw [← HF2.out, ← hG]; exact HT.out.1⟩
def sK : List Int := [1116352408, 1899447441, 3049323471, 3921009573, 961987163, 1508970993, 2453635748, 2870763221, 3624381080, 310598401, 607225278, 1426881987, 1925078388, 2162078206, 2614888103, 3248222580, 3835390401, 4022224774, 264347078, 604807628, 770255983, 1249150122, 1555081692, 1996064986, 2554220882, 2821834349, 2952996808, 3210313671, 3336571891, 3584528711, 113926993, 338241895, 666307205, 773529912, 1294757372, 1396182291, 1695183700, 1986661051, 2177026350, 2456956037, 2730485921, 2820302411, 3259730800, 3345764771, 3516065817, 3600352804, 4094571909, 275423344, 430227734, 506948616, 659060556, 883997877, 958139571, 1322822218, 1537002063, 1747873779, 1955562222, 2024104815, 2227730452, 2361852424, 2428436474, 2756734187, 3204031479, 3329325298]
def sIV : List Int := [1779033703, 3144134277, 1013904242, 2773480762, 1359893119, 2600822924, 528734635, 1541459225]
/-- One block: "abc", as it is filled up. -/
def blk1 : ByteArray := ⟨#[97, 98, 99, 128, 0, 0, 0, 0, 0, 0, 0, 0, 0, 0, 0, 0, 0, 0, 0, 0, 0, 0, 0, 0, 0, 0, 0, 0, 0, 0, 0, 0, 0, 0, 0, 0, 0, 0, 0, 0, 0, 0, 0, 0, 0, 0, 0, 0, 0, 0, 0, 0, 0, 0, 0, 0, 0, 0, 0, 0, 0, 0, 0, 24]⟩
theorem sha_abc : addF (rounds sK (wordsF blk1) 64 0 ⟨1779033703, 3144134277, 1013904242, 2773480762, 1359893119, 2600822924, 528734635, 1541459225⟩).list 8 0 sIV = [3128432319, 2399260650, 1094795486, 1571693091, 2953011619, 2518121116, 3021012833, 4060091821] := by kernel_rfl
end Go.Proofs.YthbljhmjppjcjaaGreatDoor.Z
end

section
namespace Go.Proofs.YthbljhmjppjcjaaGreatDoor.Z
open Go.RowKit Go.Proofs.YthbljhmjppjcjaaGreatDoorW.PrintWords Go.Proofs.YthbljhmjppjcjaaGreatDoorW.PrintLast Go.Proofs.YthbljhmjppjcjaaGreatDoorW.PrintMore
attribute [local go_sem] max2_int min2_int max_two min_two max_three min_three max_four min_four   -- for this text's walks alone
set_option linter.unusedVariables false
set_option linter.unusedSimpArgs false
def hash_tail.l0 : Nat → Int → List Int → Int → Option (ByteArray)
 | 0, _, _, _ => none
 | k + 1, x0, x4, x16 => if x16 < 8 then (if 0 ≤ (wrap64 (8 * x16)) then (if 0 ≤ (wrap64 ((wrap64 ((x4.length : Int) - 1)) - x16)) then (if (wrap64 ((wrap64 ((x4.length : Int) - 1)) - x16)) < (x4.length : Int) then (hash_tail.l0 k x0 (x4.set ((wrap64 ((wrap64 ((x4.length : Int) - 1)) - x16)) : Int).toNat ((shr .u64 (IntKind.u64.wrap ((IntKind.u64.wrap (x0)) * 8)) (wrap64 (8 * x16))) % 256)) (wrap64 (x16 + 1))) else (none)) else (none)) else (none)) else (some (strOfNums x4))
def hash_tail.f (k : Nat) (a0 : Int) : Option (ByteArray) := if 0 ≤ (wrap64 ((wrap64 (1 + (Int.tmod (wrap64 (119 - (Int.tmod a0 64))) 64))) + 8)) then (if (wrap64 ((wrap64 (1 + (Int.tmod (wrap64 (119 - (Int.tmod a0 64))) 64))) + 8) : Int).toNat ≤ 281474976710656 then ((some (List.replicate (wrap64 ((wrap64 (1 + (Int.tmod (wrap64 (119 - (Int.tmod a0 64))) 64))) + 8) : Int).toNat 0 : List Int)).bind fun y101 => (if 0 < (y101.length : Int) then (hash_tail.l0 k a0 (y101.set (0 : Int).toNat 128) 0) else (none))) else (none)) else (none)
theorem hash_tail.mono_l : ∀ k, (∀ y0 y1 y2, LeO (hash_tail.l0 k y0 y1 y2) (hash_tail.l0 (k + 1) y0 y1 y2))
 | 0 => fun _ _ _ r h => by simp [hash_tail.l0] at h
 | k + 1 => by
  have ih0 := hash_tail.mono_l k
  ·intro y0 y1 y2
   unfold hash_tail.l0
   repeat' first
   | (with_reducible exact ih0 _ _ _)
   | (with_reducible exact LeO.refl _)
   | (with_reducible exact LeO.none _)
   | (with_reducible refine LeO.ite ?_ ?_)
   | (with_reducible refine LeO.bind ?_ (fun _ => ?_))
   | exact ih0 _ _ _
   | exact LeO.none _
   | refine LeO.ite ?_ ?_
   | refine LeO.bind ?_ (fun _ => ?_)
theorem hash_tail.mono : ∀ a0 k, LeO (hash_tail.f k a0) (hash_tail.f (k + 1) a0) := by
 intro a0 k
 have ih0 := hash_tail.mono_l k
 unfold hash_tail.f
 repeat' first
   | (with_reducible exact ih0 _ _ _)
   | (with_reducible exact LeO.refl _)
   | (with_reducible exact LeO.none _)
   | (with_reducible refine LeO.ite ?_ ?_)
   | (with_reducible refine LeO.bind ?_ (fun _ => ?_))
   | exact ih0 _ _ _
   | exact LeO.none _
   | refine LeO.ite ?_ ?_
   | refine LeO.bind ?_ (fun _ => ?_)
set_option maxHeartbeats 8000000 in
set_option maxRecDepth 100000 in
theorem hash_tail.calls (k : Nat) (a0 : Int) (r : ByteArray) (w : World) (h : hash_tail.f k a0 = some r) :
  Calls Tryz.prog 40 #[.int .i64 a0] w fun e w' => e = .returned (.string r) ∧ Below w.heap.size w w' := by
 have HB := Aside0.mk (Below.refl w.heap.size w)
 have H : (if 0 ≤ (wrap64 ((wrap64 (1 + (Int.tmod (wrap64 (119 - (Int.tmod a0 64))) 64))) + 8)) then (if (wrap64 ((wrap64 (1 + (Int.tmod (wrap64 (119 - (Int.tmod a0 64))) 64))) + 8) : Int).toNat ≤ 281474976710656 then ((some (List.replicate (wrap64 ((wrap64 (1 + (Int.tmod (wrap64 (119 - (Int.tmod a0 64))) 64))) + 8) : Int).toNat 0 : List Int)).bind fun y101 => (if 0 < (y101.length : Int) then (hash_tail.l0 k a0 (y101.set (0 : Int).toNat 128) 0) else (none))) else (none)) else (none)) = some r := h
 clear h
 obtain ⟨ji2, hji2⟩ : ∃ j_ : Int, (wrap64 ((wrap64 (1 + (Int.tmod (wrap64 (119 - (Int.tmod a0 64))) 64))) + 8)) = j_ := ⟨_, rfl⟩
 replace H : (if 0 ≤ (ji2) then (if (ji2 : Int).toNat ≤ 281474976710656 then ((some (List.replicate (ji2 : Int).toNat 0 : List Int)).bind fun y101 => (if 0 < (y101.length : Int) then (hash_tail.l0 k a0 (y101.set (0 : Int).toNat 128) 0) else (none))) else (none)) else (none)) = some r := by first | (rw [hji2] at H; exact H) | (simp only [hji2] at H ⊢; exact H)
 have hji2w : (IntKind.i64.wrap ((wrap64 (1 + (Int.tmod (wrap64 (119 - (Int.tmod a0 64))) 64))) + 8)) = ji2 := (i64_w _).trans hji2
 by_cases c3 : 0 ≤ (ji2)
 ·rw [if_pos c3] at H
  have c3b0 := eq_true c3
  have c3b1 : decide (0 ≤ (ji2)) = true := decide_eq_true c3
  clear c3
  by_cases c4 : (ji2 : Int).toNat ≤ 281474976710656
  ·rw [if_pos c4] at H
   have c4b0 := eq_true c4
   have c4b1 : decide ((ji2 : Int).toNat ≤ 281474976710656) = true := decide_eq_true c4
   (try simp only [Int.toNat_natCast] at c4b1)
   clear c4
   obtain ⟨y101, hy101⟩ : ∃ y_ : List Int, y_ = (List.replicate (ji2 : Int).toNat 0) := ⟨_, rfl⟩
   replace H : (if 0 < (y101.length : Int) then (hash_tail.l0 k a0 (y101.set (0 : Int).toNat 128) 0) else (none)) = some r := by first | (rw [hy101]; with_reducible exact H) | (have H2_ := (Option.bind_some _ _).symm.trans H; rw [hy101]; with_reducible exact H2_) | (have H2_ := (Option.bind_some _ _).symm.trans H; with_reducible exact H2_) | with_reducible exact H | (rw [hy101]; exact H) | exact H
   have Ny101 := Aside0.mk hy101
   clear hy101
   by_cases c5 : 0 < (y101.length : Int)
   ·rw [if_pos c5] at H
    have c5b0 : decide (0 < (y101.length : Int)) = true := decide_eq_true c5
    have c5b1 : decide (0 < y101.length) = true := decide_eq_true (by omega)
    clear c5
    obtain ⟨y104, hy104⟩ : ∃ y_ : List Int, y_ = (y101.set (0 : Int).toNat 128) := ⟨_, rfl⟩
    replace H : (hash_tail.l0 k a0 y104 0) = some r := by first | (rw [hy104]; with_reducible exact H) | (have H2_ := (Option.bind_some _ _).symm.trans H; rw [hy104]; with_reducible exact H2_) | (have H2_ := (Option.bind_some _ _).symm.trans H; with_reducible exact H2_) | with_reducible exact H | (rw [hy104]; exact H) | exact H
    have Ny104 := Aside0.mk hy104
    clear hy104
    have H' := Aside0.mk H
    clear H
    go_enter Tryz.func40, Tryz.ntmps40
    go_wp2_with (first | ((with_reducible refine gate_dst (N := 13) rfl ?_); refine Kd.R_make (Kd.int .u8) _ 5 rfl (N := 13) rfl 58 _ _ rfl ji2 rfl rfl Tryz.underlying58 (.int .u8 0) 1 info5 rfl (by decide) (by omega) 0 (ok := fun _ => True) (okp := fun _ => True) rfl (fun _ hk => hk) trivial (of_decide_eq_true (by first | (with_reducible assumption) | assumption)) (Nat.le_trans (Nat.mul_le_mul_right _ (of_decide_eq_true (by first | (with_reducible assumption) | assumption) : ji2.toNat ≤ 281474976710656)) (by omega)) (Below.refl _ _) (Nat.le_refl _) ?_; intro v102 w7 ho8 hb hg_ hnew_; clear hg_ hnew_; (first | rw [← Ny101.out] at ho8 | (simp only [Int.reduceToNat] at ho8; rw [← Ny101.out] at ho8)); have HO103 := rl_ ho8; replace HB := hb_ hb; clear hb ho8; have p6 : 0 ≤ (0 : Int) := (by omega); have q6 : (0 : Int) < ((y101.length : Int) : Int) := of_decide_eq_true (by first | (with_reducible assumption) | assumption); have qi6 : (0 < y101.length) = True := eq_true (by omega); obtain ⟨go6, co6, eo6, gb6, gl6, cl6, HG6⟩ := Kd.R_form HO103.out (by omega); (first | cases eo6 | (injection eo6 with ea_ en_ ec_; (first | subst ea_ | (injection ea_ with ea_; subst ea_)); subst ec_; clear en_)); have GB6 := Aside0.mk gb6; have GG6 := Aside0.mk HG6; clear gb6 gl6 HG6; obtain ⟨hx6_0, hf6_0⟩ := Kd.R_celln 0 HO103.out (0 : Int) p6 q6; (try rw [show ((0 : Int)).toNat = 0 from rfl] at hx6_0); (try simp only [Nat.reduceMul, Nat.zero_mul, Nat.zero_add, Nat.reduceAdd] at hx6_0); (try rw [show ((0 : Int)).toNat = 0 from rfl] at hf6_0); (try simp only [Nat.reduceMul, Nat.zero_mul, Nat.zero_add, Nat.reduceAdd] at hf6_0); replace p6 := eq_true p6; replace q6 := eq_true q6; obtain ⟨hy9_, hz9_⟩ := Kd.R_celln 0 HO103.out (0 : Int) (by omega) (of_decide_eq_true (by first | (with_reducible assumption) | assumption)); (try simp only [Int.reduceToNat, Int.toNat_zero, Int.toNat_ofNat, Nat.reduceMul, Nat.zero_mul, Nat.zero_add] at hy9_ hz9_); (try rw [show ((0 : Int)).toNat = 0 from rfl] at hy9_); (try rw [show ((0 : Int)).toNat = 0 from rfl] at hz9_); have HP9 := Kd.R_putg HO103.out (0 : Int) 128) | ((with_reducible refine gate_store (t := 5) (p := 15) rfl ?_); refine store_event (t := 5) (p := 15) (v := ?vo_w10) (w1 := (w7.setCell ⟨go6, (0 : Int).toNat, none⟩ (.int .u8 128))) ?hg ?ho ?hn ?hr ?_; (case ho => rfl); (case hg => rfl); (case hn => rfl); (case hr => first | (go_simp; done) | (go_simp; rfl)); intro w10 hw; have hg : w7.grownBy w10 (some go6) := (by rw [hw]; exact HP9.2); have hp_ : Kd.R (Kd.int .u8) 5 w10 w.heap.size (fun _ => True) (.slice (some ⟨go6, 0, none⟩) y101.length co6) y104 := (by rw [hw, Ny104.out]; exact HP9.1); clear HP9; replace HO103 := Aside0.mk (hp_); replace HB := Aside0.mk ((by rw [hw]; exact below_set (HB.out) GB6.out : Below w.heap.size w w10)); clear hg hw hp_))
    go_loopg [16] k (fun kq v16 w' => ∃ (x4_1 : List Int) (x16_1 : Int), v16 = .int .i64 x16_1 ∧ Aside0 (hash_tail.l0 kq a0 x4_1 x16_1 = some r) ∧ Aside0 (kq ≤ k) ∧ Aside0 (Kd.R (Kd.int .u8) 5 w' w.heap.size (fun _ => True) (.slice (some ⟨go6, 0, none⟩) y101.length co6) x4_1) ∧ Aside0 (Below w.heap.size w w'))
    case atStart => exact ⟨(y104), (0), (by first | rfl | (simp; done) | (simp [*]; done)), H', ⟨Nat.le_refl _⟩, ⟨ra_ HO103⟩, ⟨bel_⟩⟩
    case round =>
     clear H'
     try clear p2
     try clear c3
     try clear c3b0
     try clear c3b1
     try clear c4
     try clear c4b0
     try clear c4b1
     try clear c5
     try clear c5b0
     try clear c5b1
     try clear p6
     try clear q6
     try clear hx6
     try clear qi6
     try clear hf6
     try clear hx6_0
     try clear p6
     try clear q6
     obtain ⟨x4_1, x16_1, rfl, HA, HK1, HO_4, HB⟩ := hrel
     have hl4_1 := (Kd.R_reads' HO_4.out).1
     rw [hl4_1] at HO_4
     (try simp only [hl4_1])
     cases gk with
     | zero => exact absurd HA.out (by simp [hash_tail.l0])
     | succ k1 =>
      have H := HA.out
      clear HA
      simp only [hash_tail.l0] at H
      by_cases c11 : x16_1 < 8
      ·rw [if_pos c11] at H
       have c11b0 : decide (x16_1 < 8) = true := decide_eq_true c11
       clear c11
       obtain ⟨ji12, hji12⟩ : ∃ j_ : Int, (wrap64 (8 * x16_1)) = j_ := ⟨_, rfl⟩
       replace H : (if 0 ≤ (ji12) then (if 0 ≤ (wrap64 ((wrap64 ((x4_1.length : Int) - 1)) - x16_1)) then (if (wrap64 ((wrap64 ((x4_1.length : Int) - 1)) - x16_1)) < (x4_1.length : Int) then (hash_tail.l0 k1 a0 (x4_1.set ((wrap64 ((wrap64 ((x4_1.length : Int) - 1)) - x16_1)) : Int).toNat ((shr .u64 (IntKind.u64.wrap ((IntKind.u64.wrap (a0)) * 8)) (ji12)) % 256)) (wrap64 (x16_1 + 1))) else (none)) else (none)) else (none)) = some r := by first | (rw [hji12] at H; exact H) | (simp only [hji12] at H ⊢; exact H)
       have hji12w : (IntKind.i64.wrap (8 * x16_1)) = ji12 := (i64_w _).trans hji12
       by_cases c13 : 0 ≤ (ji12)
       ·rw [if_pos c13] at H
        have c13b0 := eq_true c13
        have c13b1 : decide (0 ≤ (ji12)) = true := decide_eq_true c13
        clear c13
        obtain ⟨ji14, hji14⟩ : ∃ j_ : Int, (shr .u64 (IntKind.u64.wrap ((IntKind.u64.wrap (a0)) * 8)) (ji12)) = j_ := ⟨_, rfl⟩
        replace H : (if 0 ≤ (wrap64 ((wrap64 ((x4_1.length : Int) - 1)) - x16_1)) then (if (wrap64 ((wrap64 ((x4_1.length : Int) - 1)) - x16_1)) < (x4_1.length : Int) then (hash_tail.l0 k1 a0 (x4_1.set ((wrap64 ((wrap64 ((x4_1.length : Int) - 1)) - x16_1)) : Int).toNat ((ji14) % 256)) (wrap64 (x16_1 + 1))) else (none)) else (none)) = some r := by first | (rw [hji14] at H; exact H) | (simp only [hji14] at H ⊢; exact H)
        have hji14_ : ((IntKind.u64.wrap ((IntKind.u64.wrap (a0)) * 8)) / 2 ^ min (ji12).toNat 64) = ji14 := hji14
        have hji14z : (ji12) ≤ 64 → ((IntKind.u64.wrap ((IntKind.u64.wrap (a0)) * 8)) / 2 ^ (ji12).toNat) = ji14 := shr_small hji14
        obtain ⟨ji15, hji15⟩ : ∃ j_ : Int, (wrap64 ((wrap64 ((x4_1.length : Int) - 1)) - x16_1)) = j_ := ⟨_, rfl⟩
        replace H : (if 0 ≤ (ji15) then (if (ji15) < (x4_1.length : Int) then (hash_tail.l0 k1 a0 (x4_1.set ((ji15) : Int).toNat ((ji14) % 256)) (wrap64 (x16_1 + 1))) else (none)) else (none)) = some r := by first | (rw [hji15] at H; exact H) | (simp only [hji15] at H ⊢; exact H)
        have hji15w : (IntKind.i64.wrap ((wrap64 ((x4_1.length : Int) - 1)) - x16_1)) = ji15 := (i64_w _).trans hji15
        by_cases c16 : 0 ≤ (ji15)
        ·rw [if_pos c16] at H
         have c16b0 : decide (0 ≤ (ji15)) = true := decide_eq_true c16
         clear c16
         by_cases c17 : (ji15) < (x4_1.length : Int)
         ·rw [if_pos c17] at H
          have c17b0 : decide ((ji15) < (x4_1.length : Int)) = true := decide_eq_true c17
          try (have c17b0y := c17b0; simp only [hl4_1] at c17b0y)
          clear c17
          obtain ⟨y105, hy105⟩ : ∃ y_ : List Int, y_ = (x4_1.set ((ji15) : Int).toNat ((ji14) % 256)) := ⟨_, rfl⟩
          replace H : (hash_tail.l0 k1 a0 y105 (wrap64 (x16_1 + 1))) = some r := by first | (rw [hy105]; with_reducible exact H) | (have H2_ := (Option.bind_some _ _).symm.trans H; rw [hy105]; with_reducible exact H2_) | (have H2_ := (Option.bind_some _ _).symm.trans H; with_reducible exact H2_) | with_reducible exact H | (rw [hy105]; exact H) | exact H
          have Ny105 := Aside0.mk hy105
          clear hy105
          have H' := Aside0.mk H
          clear H
          have p18 : 0 ≤ ((ji15) : Int) := of_decide_eq_true (by first | (with_reducible assumption) | assumption)
          have q18 : ((ji15) : Int) < ((x4_1.length : Int) : Int) := of_decide_eq_true (by first | (with_reducible assumption) | assumption)
          obtain ⟨hx18_0, hf18_0⟩ := Kd.R_celln 0 HO_4.out ((ji15) : Int) p18 q18
          replace p18 := eq_true p18
          replace q18 := eq_true q18
          have HP19 := Kd.R_putg HO_4.out ((ji15) : Int) ((ji14) % 256)
          go_wp2_with (first | ((with_reducible refine gate_store (t := 5) (p := 32) rfl ?_); refine store_event (t := 5) (p := 32) (v := ?vo_w20) (w1 := (wr.setCell ⟨go6, ((ji15) : Int).toNat, none⟩ (.int .u8 ((ji14) % 256)))) ?hg ?ho ?hn ?hr ?_; (case ho => rfl); (case hg => rfl); (case hn => rfl); (case hr => first | (go_simp; done) | (go_simp; rfl)); intro w20 hw; have hg : wr.grownBy w20 (some go6) := (by rw [hw]; exact HP19.2); have hp_ : Kd.R (Kd.int .u8) 5 w20 w.heap.size (fun _ => True) (.slice (some ⟨go6, 0, none⟩) x4_1.length co6) y105 := (by rw [hw, Ny105.out]; exact HP19.1); clear HP19; replace HO_4 := Aside0.mk (hp_); replace HB := Aside0.mk ((by rw [hw]; exact below_set (HB.out) GB6.out : Below w.heap.size w w20)); clear hg hw hp_))
          (try simp only [← hl4_1])
          go_roundg k1
          case measure => have := HK1.out; omega
          case rel => exact ⟨(y105), (wrap64 (x16_1 + 1)), (by first | rfl | (simp; done) | (simp [*]; done)), H', ⟨by have := HK1.out; omega⟩, ⟨by (try simp only [hl4_1]); (with_reducible repeat (first | apply Kd.R_alloc | apply Kd.R_drewN | apply Kd.R_drew)); exact HO_4.out⟩, ⟨bel_⟩⟩
         rw [if_neg c17] at H
         exact absurd H (by simp)
        rw [if_neg c16] at H
        exact absurd H (by simp)
       rw [if_neg c13] at H
       exact absurd H (by simp)
      rw [if_neg c11] at H
      have c11b0 : decide (x16_1 < 8) = false := decide_eq_false c11
      clear c11
      obtain rfl := Option.some.inj H
      have hcv21 := own_string (P := Tryz.prog) Tryz.underlying58 Tryz.underlying5 Tryz.underlying9 (Kd.own_of_R HO_4.out)
      go_wp2
      go_ret
      exact ⟨by first | rfl | (simp [errW_none, errW_some] <;> rfl) | (simp only [← hji2]; first | rfl | (simp [errW_none, errW_some] <;> rfl)) | (simp [*, errW_none, errW_some] <;> rfl), bel_⟩
   rw [if_neg c5] at H
   exact absurd H (by simp)
  rw [if_neg c4] at H
  exact absurd H (by simp)
 rw [if_neg c3] at H
 exact absurd H (by simp)
end Go.Proofs.YthbljhmjppjcjaaGreatDoor.Z
end

section
/- hash.Sum of "abc": its first byte. -/
namespace Go.Proofs.YthbljhmjppjcjaaGreatDoor.Z
open Go.RowKit Go.Proofs.YthbljhmjppjcjaaGreatDoorW.PrintWords Go.Proofs.YthbljhmjppjcjaaGreatDoorW.PrintLast Go.Proofs.YthbljhmjppjcjaaGreatDoorW.PrintMore
set_option linter.unusedVariables false
set_option linter.unusedSimpArgs false
set_option maxRecDepth 100000 in
set_option maxHeartbeats 3200000 in
theorem rounds_calls (w : World) : Calls Tryz.prog 38 #[] w fun e w' => ∃ g, e = .returned (.pointer (some ⟨g, 0, none⟩)) ∧ w.heap.size ≤ g ∧ w'.heap[g]? = some (ws 150 sK) ∧ Below w.heap.size w w' := by
  go_enter Tryz.func38, Tryz.ntmps38
  go_wp2_with ((with_reducible refine gate_dst (N := 2) rfl ?_); refine box_event ?hg (N := 2) ?hd (cs := (sK.map (fun x => Value.int .u32 x)).toArray) (t := 150) ?hr ?_; (case hd => rfl); (case hg => rfl); (case hr => first | (go_simp; done) | (go_simp; rfl)); intro g hg w1 hx hb; have BX := Aside0.mk (show w1.heap[g]? = some (ws 150 sK) from hx); have BB := Aside0.mk hb; have GG := Aside0.mk (show w.heap.size ≤ g by omega); clear hx hb hg)
  go_ret
  exact ⟨g, rfl, GG.out, BX.out, BB.out⟩
/-- An array of bytes in memory. -/
def bs (t : TypeId) (l : List Int) : Obj := .cells (l.map (fun x => Value.int .u8 x)).toArray t (0, 0)
theorem bs_cell {w : World} {g : Nat} {t : TypeId} {l : List Int} (h : w.heap[g]? = some (bs t l)) (i : Int) (h0 : 0 ≤ i) (hi : i < l.length) : ∃ v, w.cell? ⟨g, i.toNat, none⟩ = some v := by
  rw [blk_cell h, List.getElem?_toArray, List.getElem?_map, List.getElem?_eq_getElem (show i.toNat < l.length by omega)]
  exact ⟨_, rfl⟩
theorem bs_set {w : World} {g : Nat} {t : TypeId} {l : List Int} (h : w.heap[g]? = some (bs t l)) (i : Nat) (x : Int) : (w.setCell ⟨g, i, none⟩ (.int .u8 x)).heap[g]? = some (bs t (l.set i x)) := by
  rw [blk_set h]
  congr 2
  simp [bs]
theorem bs_info {p : Option Nat} {n : Nat} {l : List Int} (h : p = some n) (hl : l.length = n) : p = some (l.map (fun x => Value.int .u8 x)).toArray.size := by
  rw [h]
  simp [hl]
theorem bs_one (l : List Int) : ((l.map (fun x => Value.int .u8 x)).toArray).all (·.oneCell') = true := by
  simp [Value.oneCell']
def abcT : ByteArray := ⟨#[128, 0, 0, 0, 0, 0, 0, 0, 0, 0, 0, 0, 0, 0, 0, 0, 0, 0, 0, 0, 0, 0, 0, 0, 0, 0, 0, 0, 0, 0, 0, 0, 0, 0, 0, 0, 0, 0, 0, 0, 0, 0, 0, 0, 0, 0, 0, 0, 0, 0, 0, 0, 0, 0, 0, 0, 0, 0, 0, 0, 24]⟩
theorem abc_tail : hash_tail.f 20 3 = some abcT := by kernel_rfl
def H0 : List Int := addF (rounds sK (wordsF blk1) 64 0 ⟨1779033703, 3144134277, 1013904242, 2773480762, 1359893119, 2600822924, 528734635, 1541459225⟩).list 8 0 sIV
theorem H0_len : H0.length = 8 := by unfold H0; rw [sha_abc]; rfl
theorem H0_rd : rd H0 0 = 3128432319 := by unfold H0; rw [sha_abc]; rfl
set_option maxRecDepth 100000 in
set_option maxHeartbeats 6400000 in
theorem hsum_calls (w : World) :
    Calls Tryz.prog 15 #[.string ⟨#[97, 98, 99]⟩] w fun e w' => ∃ l : List Int, e = .returned (.agg (l.map (fun x => Value.int .u8 x)).toArray) ∧ l.length = 32 ∧ rd l 0 = 186 ∧ Below w.heap.size w w' := by
  go_enter Tryz.func15, Tryz.ntmps15
  go_wp2_with (first
    | ((with_reducible refine gate_dst (N := 2) rfl ?_); refine box_event ?hg (N := 2) ?hd (cs := ((List.replicate 32 (0 : Int)).map (fun x => Value.int .u8 x)).toArray) (t := 53) ?hr ?_; (case hd => rfl); (case hg => rfl); (case hr => first | (go_simp; done) | (go_simp; rfl)); intro go hgo w1 hx hb; have O1 := Aside0.mk (show w1.heap[go]? = some (bs 53 (List.replicate 32 0)) from hx); have B1 := Aside0.mk hb; have GO := Aside0.mk (show w.heap.size ≤ go by omega); clear hx hb hgo)
    | ((with_reducible refine gate_dst (N := 3) rfl ?_); refine box_event ?hg (N := 3) ?hd (cs := ((List.replicate 8 (0 : Int)).map (fun x => Value.int .u32 x)).toArray) (t := 98) ?hr ?_; (case hd => rfl); (case hg => rfl); (case hr => first | (go_simp; done) | (go_simp; rfl)); intro gh hgh w2 hx hb; have I2 := Aside0.mk (show w2.heap[gh]? = some (ws 98 (List.replicate 8 0)) from hx); have O2 := Aside0.mk (blk_below O1.out hb); have B2 := Aside0.mk (below_step B1.out hb); have GH := Aside0.mk (show w.heap.size ≤ gh ∧ go ≠ gh from ⟨by have := B1.out.size; omega, by rw [hgh]; exact Nat.ne_of_lt (blk_lt O1.out)⟩);  have q0 : w2.cell? ⟨gh, 0, none⟩ = some (.int .u32 0) := (blk_cell I2.out 0).trans rfl; have f0 : w2.frozen? ⟨gh, 0, none⟩ = false := blk_frozen I2.out 0; have q1 : w2.cell? ⟨gh, 1, none⟩ = some (.int .u32 0) := (blk_cell I2.out 1).trans rfl; have f1 : w2.frozen? ⟨gh, 1, none⟩ = false := blk_frozen I2.out 1; have q2 : w2.cell? ⟨gh, 2, none⟩ = some (.int .u32 0) := (blk_cell I2.out 2).trans rfl; have f2 : w2.frozen? ⟨gh, 2, none⟩ = false := blk_frozen I2.out 2; have q3 : w2.cell? ⟨gh, 3, none⟩ = some (.int .u32 0) := (blk_cell I2.out 3).trans rfl; have f3 : w2.frozen? ⟨gh, 3, none⟩ = false := blk_frozen I2.out 3; have q4 : w2.cell? ⟨gh, 4, none⟩ = some (.int .u32 0) := (blk_cell I2.out 4).trans rfl; have f4 : w2.frozen? ⟨gh, 4, none⟩ = false := blk_frozen I2.out 4; have q5 : w2.cell? ⟨gh, 5, none⟩ = some (.int .u32 0) := (blk_cell I2.out 5).trans rfl; have f5 : w2.frozen? ⟨gh, 5, none⟩ = false := blk_frozen I2.out 5; have q6 : w2.cell? ⟨gh, 6, none⟩ = some (.int .u32 0) := (blk_cell I2.out 6).trans rfl; have f6 : w2.frozen? ⟨gh, 6, none⟩ = false := blk_frozen I2.out 6; have q7 : w2.cell? ⟨gh, 7, none⟩ = some (.int .u32 0) := (blk_cell I2.out 7).trans rfl; have f7 : w2.frozen? ⟨gh, 7, none⟩ = false := blk_frozen I2.out 7; have S8 := Aside0.mk (show Step gh w2 ((((((((w2.setCell ⟨gh, 0, none⟩ (.int .u32 1779033703)).setCell ⟨gh, 1, none⟩ (.int .u32 3144134277)).setCell ⟨gh, 2, none⟩ (.int .u32 1013904242)).setCell ⟨gh, 3, none⟩ (.int .u32 2773480762)).setCell ⟨gh, 4, none⟩ (.int .u32 1359893119)).setCell ⟨gh, 5, none⟩ (.int .u32 2600822924)).setCell ⟨gh, 6, none⟩ (.int .u32 528734635)).setCell ⟨gh, 7, none⟩ (.int .u32 1541459225)) (ws 98 sIV) from (((((((((Step.refl I2.out).ws 0 1779033703).ws 1 3144134277).ws 2 1013904242).ws 3 2773480762).ws 4 1359893119).ws 5 2600822924).ws 6 528734635).ws 7 1541459225)); clear hx hb hgh)
    | (go_at_call 38; have S8' := S8.out; clear S8 q0 q1 q2 q3 q4 q5 q6 q7 f0 f1 f2 f3 f4 f5 f6 f7; obtain ⟨w3, hw3⟩ : ∃ w3, w3 = ((((((((w2.setCell ⟨gh, 0, none⟩ (.int .u32 1779033703)).setCell ⟨gh, 1, none⟩ (.int .u32 3144134277)).setCell ⟨gh, 2, none⟩ (.int .u32 1013904242)).setCell ⟨gh, 3, none⟩ (.int .u32 2773480762)).setCell ⟨gh, 4, none⟩ (.int .u32 1359893119)).setCell ⟨gh, 5, none⟩ (.int .u32 2600822924)).setCell ⟨gh, 6, none⟩ (.int .u32 528734635)).setCell ⟨gh, 7, none⟩ (.int .u32 1541459225)) := ⟨_, rfl⟩; rw [← hw3] at S8' ⊢; have I3 := Aside0.mk S8'.1; have O3 := Aside0.mk ((S8'.2.1.2 go (blk_lt O2.out) GH.out.2 (by simp)).trans O2.out); have B3 := Aside0.mk (B2.out.trans (S8'.2.2 _ GH.out.1)); clear hw3 S8'; refine (rounds_calls _).mono ?_; rintro e w4 ⟨gk, rfl, hgk, hk, hb⟩; have I4 := Aside0.mk (blk_below I3.out hb); have O4 := Aside0.mk (blk_below O3.out hb); have K4 := Aside0.mk hk; have B4 := Aside0.mk (below_step B3.out hb); clear hk hb hgk)
    | (go_at_call 40; refine (hash_tail.calls 20 3 abcT _ abc_tail).mono ?_; rintro e w5 ⟨rfl, hb⟩; have I5 := Aside0.mk (blk_below I4.out hb); have O5 := Aside0.mk (blk_below O4.out hb); have K5 := Aside0.mk (blk_below K4.out hb); have B5 := Aside0.mk (below_step B4.out hb); clear hb))
  obtain ⟨w6, hw6⟩ : ∃ w6, w6 = w5 := ⟨_, rfl⟩
  go_loopw [0] (fun sv wr => ∃ B : ByteArray, sv = .string B ∧ Aside0 (Below w.heap.size w wr ∧ wr.heap[go]? = some (bs 53 (List.replicate 32 0)) ∧ wr.heap[gk]? = some (ws 150 sK) ∧ (B = blk1 ∧ wr.heap[gh]? = some (ws 98 sIV) ∨ B = ⟨#[]⟩ ∧ wr.heap[gh]? = some (ws 98 H0)))) (fun sv _ => match sv with | .string b => b.size | _ => 0)
  case atStart => exact ⟨_, rfl, ⟨B5.out, O5.out, K5.out, .inl ⟨by decide, I5.out⟩⟩⟩
  case round =>
    obtain ⟨B, rfl, HS⟩ := hrel
    obtain ⟨hB, hO, hK, hc | hc⟩ := HS.out
    · have hsz : B.toList.isEmpty = false := by rw [hc.1]; kernel_rfl
      have hs0 : ((64 : Int) ≤ (B.size : Int)) = True := eq_true (by rw [hc.1]; decide)
      have he : B.extract 0 64 = blk1 := by rw [hc.1]; kernel_rfl
      have hr : B.extract 64 B.size = ⟨#[]⟩ := by rw [hc.1]; kernel_rfl
      have HBS := Aside0.mk (show B.size = 64 by rw [hc.1]; rfl)
      have NK := Aside0.mk (show gk ≠ gh ∧ go ≠ gh from ⟨by
        intro e
        rw [e] at hK
        have := hK.symm.trans hc.2
        simp [ws] at this, GH.out.2⟩)
      have CC := Aside0.mk hc.2
      clear hB hO hK hc
      go_wp2_with (go_at_call 39; refine (take_calls blk1 rfl gh gk sK rfl _ _ _ _ _ _ _ _ wr CC.out HS.out.2.2.1).mono ?_; rintro e w7 ⟨rfl, h7⟩; have S7 := Aside0.mk h7; clear h7)
      have hs := HS.out
      have nk := NK.out
      have s7 := S7.out
      have hz := HBS.out
      go_roundw
      case rel => exact ⟨⟨#[]⟩, rfl, ⟨hs.1.trans (s7.2.2 _ GH.out.1), (s7.2.1.2 go (blk_lt hs.2.1) nk.2 (by simp)).trans hs.2.1, (s7.2.1.2 gk (blk_lt hs.2.2.1) nk.1 (by simp)).trans hs.2.2.1, .inr ⟨rfl, s7.1⟩⟩⟩
      case measure =>
        show 0 < B.size
        omega
    · have hsz : B.toList.isEmpty = true := by rw [hc.1]; kernel_rfl
      have HR := Aside0.mk (And.intro hB (And.intro hO hc.2))
      clear hB hO hK hc HS
      go_wp2
      go_loopw [23] (fun i wr => ∃ (y : Int) (l : List Int), i = .int .i64 y ∧ Aside0 (0 ≤ y ∧ y ≤ 32) ∧ Aside0 (Below w.heap.size w wr ∧ wr.heap[go]? = some (bs 53 l) ∧ wr.heap[gh]? = some (ws 98 H0) ∧ l.length = 32) ∧ Aside0 (0 < y → rd l 0 = 186)) (fun i _ => 32 - (intOf i).toNat)
      case atStart => exact ⟨0, _, rfl, ⟨by omega⟩, ⟨HR.out.1, HR.out.2.1, HR.out.2.2, by simp⟩, ⟨fun h => by omega⟩⟩
      case round =>
        obtain ⟨y, l, rfl, HY, HT, HG⟩ := hrel
        obtain ⟨hy0, hy1⟩ := HY.out
        have hll := HT.out.2.2.2
        by_cases hly : y < 32
        · have hly2 : decide (y < 32) = true := decide_eq_true hly
          have q0 : ((0 : Int) ≤ y) = True := eq_true hy0
          have q1 : (y < (32 : Int)) = True := eq_true hly
          obtain ⟨j, hj⟩ : ∃ j, j = Int.tdiv y 4 := ⟨_, rfl⟩
          have hj4 : j = y / 4 := by rw [hj, Int.tdiv_eq_ediv_of_nonneg hy0]
          have p0 : ((0 : Int) ≤ j) = True := eq_true (by omega)
          have p1 : (j < (8 : Int)) = True := eq_true (by omega)
          have ej : Int.tdiv y 4 = j := hj.symm
          have ej2 : IntKind.i64.wrap j = j := by rw [IntKind.wrap_i64]; omega
          have hmr : Int.tmod y 4 = y % 4 := Int.tmod_eq_emod_of_nonneg hy0
          obtain ⟨m0, hm0⟩ : ∃ m0, m0 = Int.tmod y 4 := ⟨_, rfl⟩
          have em0 : Int.tmod y 4 = m0 := hm0.symm
          obtain ⟨m1, hm1⟩ : ∃ m1, m1 = 8 * m0 := ⟨_, rfl⟩
          have em1 : IntKind.i64.wrap (8 * m0) = m1 := by rw [IntKind.wrap_i64]; omega
          obtain ⟨m2, hm2⟩ : ∃ m2, m2 = 24 - m1 := ⟨_, rfl⟩
          have em2 : IntKind.i64.wrap (24 - m1) = m2 := by rw [IntKind.wrap_i64]; omega
          have p2 : ((0 : Int) ≤ m2) = True := eq_true (by omega)
          have Y0 := Aside0.mk (show y = 0 → j = 0 ∧ m2 = 24 from fun e => by omega)
          have k0 := ws_at HT.out.2.2.1 j (by omega) (by rw [H0_len]; omega)
          have z0 : wr.frozen? ⟨go, y.toNat, none⟩ = false := blk_frozen HT.out.2.1 _
          obtain ⟨c0, k1⟩ := bs_cell HT.out.2.1 y hy0 (by omega)
          have LY := Aside0.mk hly
          have ew : wrap64 (y + 1) = y + 1 := by unfold wrap64; omega
          have EW := Aside0.mk ew
          clear hy0 hy1 hly hj hj4 hmr hm0 hm1 hm2 ew hll
          go_wp2
          have hl := LY.out
          have hy := HY.out
          go_roundw
          case rel =>
            refine ⟨y + 1, _, by rw [EW.out], ⟨by omega⟩, ⟨HT.out.1.setCell (p := ⟨go, y.toNat, none⟩) GO.out _, bs_set HT.out.2.1 _ _, (Below.heap_setCell wr ⟨go, y.toNat, none⟩ _ gh (fun e => GH.out.2 e.symm)).trans HT.out.2.2.1, by rw [List.length_set]; exact HT.out.2.2.2⟩, ⟨fun _ => ?_⟩⟩
            by_cases h0 : y = 0
            · obtain ⟨rfl, rfl⟩ := Y0.out h0
              subst h0
              rw [H0_rd]
              unfold rd
              rw [List.getD_eq_getElem?_getD, List.getElem?_set_self (by rw [HT.out.2.2.2]; decide)]
              rfl
            · have := HG.out (by omega)
              rw [← this]
              unfold rd
              rw [List.getD_eq_getElem?_getD, List.getElem?_set_ne (by omega), List.getD_eq_getElem?_getD]
          case measure =>
            simp [EW.out, intOf]
            omega
        · have hge : decide (y < 32) = false := decide_eq_false hly
          have HG' := Aside0.mk (HG.out (by omega))
          have HI := Aside0.mk (bs_info (l := l) (by kernel_rfl : (Tryz.prog.info? 53).map (·.size) = some 32) hll)
          clear hy0 hy1 hly hll
          go_wp2_with (first
            | ((with_reducible refine gate_dst (N := 39) rfl ?_); refine wpList_load_row rfl 53 _ rfl go rfl 53 _ (0, 0) _ HT.out.2.1 Tryz.underlying53 rfl HI.out ?_)
            | (refine wpList_store_row rfl 53 _ _ rfl go _ rfl rfl 53 _ HT.out.2.1 HI.out rfl (bs_one l) ?_))
          (try simp only [Exit.inBlock, Exit.then])
          refine bodyPost_ret (results_cell_row rfl _ _ go 53 _ (0, 0) _ rfl (setRow_heap _ go _ _ 53 (0, 0) HT.out.2.1) Tryz.underlying53 rfl HI.out) rfl ?_
          exact ⟨l, rfl, HT.out.2.2.2, HG'.out, below_setRow HT.out.1 GO.out _⟩
end Go.Proofs.YthbljhmjppjcjaaGreatDoor.Z
end

section
/- pack.Sum: the sum of a text, byte by byte, bit by bit. -/
namespace Go.Proofs.YthbljhmjppjcjaaGreatDoor.Z
open Go.RowKit Go.Proofs.YthbljhmjppjcjaaGreatDoorW.PrintWords Go.Proofs.YthbljhmjppjcjaaGreatDoorW.PrintLast Go.Proofs.YthbljhmjppjcjaaGreatDoorW.PrintMore
set_option linter.unusedVariables false
set_option linter.unusedSimpArgs false
def reg (s n : Int) : Obj := .cells #[.int .u32 s, .int .u64 n] 95 (0, 0)
set_option maxRecDepth 100000 in
theorem reg_add64 (a : Addr) (n : Int) (w : World) (hc : w.cell? a = some (.int .u64 n)) (hz : w.frozen? a = false) :
    Calls Tryz.prog 90 #[.pointer (some a), .int .u64 1] w fun e w' => (∃ v, e = .returned v) ∧ w' = w.setCell a (.int .u64 (IntKind.u64.wrap (n + 1))) := by
  have hl := run_call_add (P := Tryz.prog) Tryz.func108 (by kernel_rfl) (by kernel_rfl) (by kernel_rfl) .u64 (by kernel_rfl) (y := 1) (s := IntKind.u64.wrap (n + 1)) hc hz (by simp [Op.intArith])
  go_enter Tryz.func90, Tryz.ntmps90
  go_wp2
  go_ret
  exact ⟨⟨_, rfl⟩, rfl⟩
set_option maxRecDepth 100000 in
theorem reg_meter (g : Nat) (s n : Int) (w : World) (hb : w.heap[g]? = some (reg s n)) :
    Calls Tryz.prog 63 #[.pointer (some ⟨g, 1, none⟩), .int .i64 1] w fun e w' => ∃ n', (∃ v, e = .returned v) ∧ Step g w w' (reg s n') := by
  have q5 : w.cell? ⟨g, 1, none⟩ = some (.int .u64 n) := (blk_cell hb 1).trans rfl
  have f5 : w.frozen? ⟨g, 1, none⟩ = false := blk_frozen hb 1
  have HS : Aside0 (Step g w (w.setCell ⟨g, 1, none⟩ (.int .u64 (IntKind.u64.wrap (n + 1)))) (reg s (IntKind.u64.wrap (n + 1)))) := ⟨(Step.refl hb).set 1 _ rfl⟩
  clear hb
  go_enter Tryz.func63, Tryz.ntmps63
  go_wp2_with (go_at_call 90; refine (reg_add64 ⟨g, 1, none⟩ n _ q5 f5).mono ?_; rintro e w' ⟨⟨v, rfl⟩, rfl⟩)
  go_ret
  exact ⟨_, ⟨_, rfl⟩, HS.out⟩
def rnd (s : Int) : Int := Go.bits .xor .u32 (shl .u32 s 1) (Go.bits .and .u32 2168537515 (IntKind.u32.wrap (-(shr .u32 s 31))))
def rnds : Nat → Int → Int
  | 0, s => s
  | d + 1, s => rnds d (rnd s)
def putC (s b : Int) : Int := rnds 8 (Go.bits .xor .u32 s (shl .u32 (IntKind.u32.wrap b) 24))
set_option maxRecDepth 100000 in
theorem reg_put (g : Nat) (s n b : Int) (w : World) (hb : w.heap[g]? = some (reg s n)) :
    Calls Tryz.prog 37 #[.pointer (some ⟨g, 0, none⟩), .int .u8 b] w fun e w' => ∃ n', e = .returned (.tuple #[]) ∧ Step g w w' (reg (putC s b) n') := by
  have HS := Aside0.mk (Step.refl hb)
  have HB := Aside0.mk hb
  clear hb
  go_enter Tryz.func37, Tryz.ntmps37
  go_wp2_with (go_at_call 63; refine (reg_meter g s n _ HB.out).mono ?_; rintro e w1 ⟨n', ⟨v, rfl⟩, h1⟩; have S1 := Aside0.mk h1; have q0 : w1.cell? ⟨g, 0, none⟩ = some (.int .u32 s) := (blk_cell h1.1 0).trans rfl; have z0 : w1.frozen? ⟨g, 0, none⟩ = false := blk_frozen h1.1 0; clear h1 HS)
  go_loopw [18] (fun i wr => ∃ (x : Int) (s' : Int), i = .int .i64 x ∧ Aside0 (0 ≤ x ∧ x ≤ 8) ∧ Aside0 (Step g w wr (reg s' n')) ∧ Aside0 (rnds (8 - x).toNat s' = putC s b)) (fun i _ => 8 - (intOf i).toNat)
  case atStart => exact ⟨0, _, rfl, ⟨by omega⟩, ⟨S1.out.set 0 _ rfl⟩, ⟨rfl⟩⟩
  case round =>
    obtain ⟨x, s', rfl, HX, HS, HF⟩ := hrel
    obtain ⟨hx0, hx1⟩ := HX.out
    have k0 : wr.cell? ⟨g, 0, none⟩ = some (.int .u32 s') := (blk_cell HS.out.1 0).trans rfl
    have y0 : wr.frozen? ⟨g, 0, none⟩ = false := blk_frozen HS.out.1 0
    by_cases hlt : x < 8
    · have hlt2 : decide (x < 8) = true := decide_eq_true hlt
      have ew : wrap64 (x + 1) = x + 1 := by unfold wrap64; omega
      have hF : rnds (8 - (x + 1)).toNat (rnd s') = putC s b := by
        have h := HF.out
        rw [show (8 - x).toNat = (8 - (x + 1)).toNat + 1 by omega, rnds] at h
        exact h
      have HF' := Aside0.mk hF
      have L := Aside0.mk hlt
      have EW := Aside0.mk ew
      clear hF hx0 hx1 hlt ew
      go_wp2
      go_still_tail 16, (by kernel_rfl)
      change wpList _ _ _ _ _ wr.drew
      have HD := Aside0.mk HS.out.drew
      obtain ⟨wd, hwd⟩ : ∃ wd, wd = wr.drew := ⟨_, rfl⟩
      rw [← hwd] at HD ⊢
      have k1 : wd.cell? ⟨g, 0, none⟩ = some (.int .u32 s') := (blk_cell HD.out.1 0).trans rfl
      have y1 : wd.frozen? ⟨g, 0, none⟩ = false := blk_frozen HD.out.1 0
      clear hwd k0 y0
      go_wp2
      have hl := L.out
      go_roundw
      case rel => exact ⟨x + 1, _, by rw [EW.out], ⟨by have := HX.out; omega⟩, ⟨HD.out.set 0 _ rfl⟩, HF'⟩
      case measure =>
        have := HX.out
        simp [EW.out, intOf]
        omega
    · have hge : decide (x < 8) = false := decide_eq_false hlt
      have hF := HF.out
      rw [show (8 - x).toNat = 0 by omega, rnds] at hF
      clear hx0 hx1 hlt k0 y0
      go_wp2
      go_end0
      exact ⟨_, rfl, hF ▸ HS.out⟩
def sumC (a : ByteArray) : Nat → Int → Int → Int
  | 0, _, s => s
  | d + 1, i, s => sumC a d (i + 1) (putC s (bt a i))
set_option maxRecDepth 100000 in
set_option maxHeartbeats 1600000 in
theorem sum_calls (a : ByteArray) (hs : (a.size : Int) ≤ 9223372036854775807) (w : World) :
    Calls Tryz.prog 14 #[.string a] w fun e w' => e = .returned (.int .u32 (sumC a a.size 0 0)) ∧ Below w.heap.size w w' := by
  have HA := Aside0.mk hs
  clear hs
  go_enter Tryz.func14, Tryz.ntmps14
  go_wp2_with ((with_reducible refine gate_dst (N := 3) rfl ?_); refine box_event ?hg (N := 3) ?hd (cs := #[.int .u32 0, .int .u64 0]) (t := 95) ?hr ?_; (case hd => rfl); (case hg => rfl); (case hr => first | (go_simp; done) | (go_simp; rfl)); intro g hg w1 hx hb; have BX := Aside0.mk hx; have BB := Aside0.mk hb; have GG := Aside0.mk (show w.heap.size ≤ g by omega); clear hx hb hg)
  go_loopw [7] (fun i wr => ∃ (x : Int) (s' n' : Int), i = .int .i64 x ∧ Aside0 (0 ≤ x ∧ x ≤ a.size) ∧ Aside0 (Below w.heap.size w wr ∧ wr.heap[g]? = some (reg s' n')) ∧ Aside0 (sumC a (a.size - x.toNat) x s' = sumC a a.size 0 0)) (fun i _ => a.size - (intOf i).toNat)
  case atStart => exact ⟨0, 0, 0, rfl, ⟨by omega⟩, ⟨BB.out, BX.out⟩, ⟨rfl⟩⟩
  case round =>
    obtain ⟨x, s', n', rfl, HX, HS, HF⟩ := hrel
    obtain ⟨hx0, hx1⟩ := HX.out
    have hsz := HA.out
    by_cases hlt : x < (a.size : Int)
    · have hlt2 : decide (x < (a.size : Int)) = true := decide_eq_true hlt
      have p0 : ((0 : Int) ≤ x) = True := eq_true hx0
      have p1 : (x < (a.size : Int)) = True := eq_true hlt
      have ew : wrap64 (x + 1) = x + 1 := by unfold wrap64; omega
      have hF : sumC a (a.size - (x + 1).toNat) (x + 1) (putC s' (bt a x)) = sumC a a.size 0 0 := by
        have h := HF.out
        rw [show a.size - x.toNat = (a.size - (x + 1).toNat) + 1 by omega, sumC] at h
        exact h
      have hbt := bt_at a x
      have HF' := Aside0.mk hF
      have L := Aside0.mk hlt
      have EW := Aside0.mk ew
      clear hF hlt ew hx0 hx1 hsz
      go_wp2_with (go_at_call 37; refine (reg_put g s' n' _ _ HS.out.2).mono ?_; rintro e w6 ⟨n2, rfl, h6⟩; have S6 := Aside0.mk h6; clear h6)
      have hl := L.out
      have hx := HX.out
      go_roundw
      case rel => exact ⟨x + 1, _, n2, by rw [EW.out], ⟨by omega⟩, ⟨HS.out.1.trans (S6.out.2.2 _ GG.out), S6.out.1⟩, HF'⟩
      case measure =>
        simp [EW.out, intOf]
        omega
    · have hge : decide (x < (a.size : Int)) = false := decide_eq_false hlt
      have hF := HF.out
      rw [show a.size - x.toNat = 0 by omega, sumC] at hF
      have k0 : wr.cell? ⟨g, 0, none⟩ = some (.int .u32 s') := (blk_cell HS.out.2 0).trans rfl
      clear hlt hx0 hx1 hsz
      go_wp2
      go_ret
      exact ⟨by rw [← hF]; rfl, HS.out.1⟩
theorem sum9 : sumC ⟨#[49, 50, 51, 52, 53, 54, 55, 56, 57]⟩ 9 0 0 = 806403967 := by kernel_rfl
end Go.Proofs.YthbljhmjppjcjaaGreatDoor.Z
end

section
/- begins: the answers that the document gives are there. -/
namespace Go.Proofs.YthbljhmjppjcjaaGreatDoor.Z
open Go.RowKit Go.Proofs.YthbljhmjppjcjaaGreatDoorW.PrintWords Go.Proofs.YthbljhmjppjcjaaGreatDoorW.PrintLast Go.Proofs.YthbljhmjppjcjaaGreatDoorW.PrintMore
set_option linter.unusedVariables false
set_option linter.unusedSimpArgs false
theorem index_bytes {l : List Int} (h : l.length = 32) (W : World) : (Instr.index 53 (.agg (l.map (fun x => Value.int .u8 x)).toArray) (.int .i64 0)).run Tryz.prog W = .ok (.int .u8 (rd l 0)) W := by
  have hs : (Tryz.prog.info? 5).map (·.size) = some 1 := by kernel_rfl
  have hV : ((l.map (fun x => Value.int .u8 x)).toArray)[0]? = some (.int .u8 (rd l 0)) := by
    rw [List.getElem?_toArray, List.getElem?_map, rd, List.getD_eq_getElem?_getD, List.getElem?_eq_getElem (show (0 : Int).toNat < l.length by rw [h]; decide), List.getElem?_eq_getElem (show 0 < l.length by omega)]
    rfl
  cases hq : Tryz.prog.info? 5 with
  | none => simp [hq] at hs
  | some i =>
    have hi : i.size = 1 := by simpa [hq] using hs
    obtain ⟨V, hVV⟩ : ∃ V : Array Value, V = (l.map (fun x => Value.int .u8 x)).toArray := ⟨_, rfl⟩
    rw [← hVV] at hV ⊢
    simp [Instr.index, asIntOf, run_underlying Tryz.underlying53, go_sem, sizeOf, typeInfo, hq, hi, Sem.run_bind]
    rw [hV]
    rfl
def cambiumtop_begins.f : Option Bool := some true
set_option maxRecDepth 100000 in
set_option maxHeartbeats 3200000 in
theorem cambiumtop_begins.calls (r : Bool) (w : World) (h : cambiumtop_begins.f = some r) : Calls Tryz.prog 4 #[] w fun e w' => e = .returned (.bool r) ∧ Below w.heap.size w w' := by
  obtain rfl := Option.some.inj h
  clear h
  go_enter Tryz.func4, Tryz.ntmps4
  go_wp2_with (first
    | (go_at_call 14; refine (sum_calls ⟨#[49, 50, 51, 52, 53, 54, 55, 56, 57]⟩ (by decide) _).mono ?_; rintro e w1 ⟨rfl, hb⟩; rw [show (ByteArray.mk #[49, 50, 51, 52, 53, 54, 55, 56, 57]).size = 9 from rfl, sum9]; have B1 := Aside0.mk hb; clear hb)
    | (go_at_call 15; refine (hsum_calls _).mono ?_; rintro e w2 ⟨l, rfl, hl, h0, hb⟩; have ix := index_bytes hl; rw [h0] at ix; obtain ⟨V, hV⟩ : ∃ V : Array Value, V = (l.map (fun x => Value.int .u8 x)).toArray := ⟨_, rfl⟩; rw [← hV] at ix ⊢; have B2 := Aside0.mk (below_step B1.out hb); clear hb hV hl h0))
  go_ret
  exact ⟨rfl, B2.out⟩
end Go.Proofs.YthbljhmjppjcjaaGreatDoor.Z
end

section
namespace Go.Proofs.YthbljhmjppjcjaaGreatDoor.Z
open Go.RowKit Go.Proofs.YthbljhmjppjcjaaGreatDoorW.PrintWords Go.Proofs.YthbljhmjppjcjaaGreatDoorW.PrintLast Go.Proofs.YthbljhmjppjcjaaGreatDoorW.PrintMore
attribute [local go_sem] max2_int min2_int max_two min_two max_three min_three max_four min_four   -- for this text's walks alone
set_option linter.unusedVariables false
set_option linter.unusedSimpArgs false
mutual
def cambiumtop_TopSized.j0 : Nat → ByteArray → Int → Int → List (S41) → Int → ByteArray → Int → Bool → Option (Bool)
 | 0, _, _, _, _, _, _, _, _ => none
 | k + 1, x0, x1, x2, x7, x8, x9, x10, x45 => if x45 = true then (if x8 = 1 then (some true) else (some (x10 == 4))) else ((inode_Key.f k 1 2 (⟨#[]⟩ : ByteArray) 0).bind fun bt314 => ((inode_Key.f k 2 1 (⟨#[97]⟩ : ByteArray) 0).bind fun bt316 => ((pack_Number.f k 2 4).bind fun bt318 => ((some (([(⟨bt314.1, true, x9⟩ : S41), (⟨bt316.1, true, bt318.1⟩ : S41)] : List (S41)) : List (S41))).bind fun y320 => (if x7.length + y320.length < 3518437208883 then ((dirs_New.f k).bind fun t326 => ((item_Apply.f k t326 (x7 ++ y320)).bind fun bt329 => (cambiumtop_TopSized.l0 k x0 x1 x2 bt329.1 bt329.2 0 (x0.size : Int) 0))) else (none))))))
def cambiumtop_TopSized.l0 : Nat → ByteArray → Int → Int → List (S71) → Int → Int → Int → Int → Option (Bool)
 | 0, _, _, _, _, _, _, _, _ => none
 | k + 1, x0, x1, x2, x17, x18, x19, x82, x83 => if x83 < x82 then (if 0 ≤ x83 then (if x83 < (x0.size : Int) then (if (bt x0 x83) = 0 then (cambiumtop_TopSized.l0 k x0 x1 x2 x17 x18 x19 x82 (wrap64 (x83 + 1))) else (cambiumtop_TopSized.l0 k x0 x1 x2 x17 x18 (IntKind.u64.wrap ((IntKind.u64.wrap ((IntKind.u64.wrap (x1)) + (IntKind.u64.wrap (x83)))) + 1)) x82 (wrap64 (x83 + 1)))) else (none)) else (none)) else ((dirs_Check.f k x17).bind fun t333 => (if x18 = 0 then (cambiumtop_TopSized.j2 k x2 x17 (t333 == 0) ((t333 == 0) != (decide ((IntKind.u64.wrap (x2)) ≥ x19)))) else (cambiumtop_TopSized.j2 k x2 x17 (t333 == 0) true)))
def cambiumtop_TopSized.j2 : Nat → Int → List (S71) → Bool → Bool → Option (Bool)
 | 0, _, _, _, _ => none
 | k + 1, x2, x17, x21, x109 => if x109 = true then (some false) else (if x21 = true then ((dirs_Walk.f k x17 (([(⟨#[97]⟩ : ByteArray)] : List ByteArray)) true).bind fun bt337 => ((data_Read.f k x17 bt337.1 x2 0 x2).bind fun bt339 => (if bt337.2 = 0 then (if bt337.1 = 2 then (if bt339.2 = 0 then (some ((bt339.1.size : Int) == (wrap64 (x2)))) else (some false)) else (some false)) else (some false)))) else (some true))
end
def cambiumtop_TopSized.f (k : Nat) (a0 : ByteArray) (a1 : Int) (a2 : Int) : Option (Bool) := (cambiumtop_begins.f).bind fun t307 => (if t307 = true then ((data_Write.f k ([] : List (S71)) 2 a1 a0).bind fun bt308 => ((inode_Encode.f k 2 0 1 a2 (⟨#[]⟩ : ByteArray)).bind fun bt312 => (if bt308.2 = 0 then (cambiumtop_TopSized.j0 k a0 a1 a2 bt308.1 bt308.2 bt312.1 bt312.2 (bt312.2 != 0)) else (cambiumtop_TopSized.j0 k a0 a1 a2 bt308.1 bt308.2 bt312.1 bt312.2 true)))) else (some false))
theorem cambiumtop_TopSized.mono_l : ∀ k, (∀ y0 y1 y2 y3 y4 y5 y6 y7, LeO (cambiumtop_TopSized.j0 k y0 y1 y2 y3 y4 y5 y6 y7) (cambiumtop_TopSized.j0 (k + 1) y0 y1 y2 y3 y4 y5 y6 y7)) ∧ (∀ y0 y1 y2 y3 y4 y5 y6 y7, LeO (cambiumtop_TopSized.l0 k y0 y1 y2 y3 y4 y5 y6 y7) (cambiumtop_TopSized.l0 (k + 1) y0 y1 y2 y3 y4 y5 y6 y7)) ∧ (∀ y0 y1 y2 y3, LeO (cambiumtop_TopSized.j2 k y0 y1 y2 y3) (cambiumtop_TopSized.j2 (k + 1) y0 y1 y2 y3))
 | 0 => ⟨fun _ _ _ _ _ _ _ _ r h => by simp [cambiumtop_TopSized.j0] at h, fun _ _ _ _ _ _ _ _ r h => by simp [cambiumtop_TopSized.l0] at h, fun _ _ _ _ r h => by simp [cambiumtop_TopSized.j2] at h⟩
 | k + 1 => by
  obtain ⟨ih0, ih1, ih2⟩ := cambiumtop_TopSized.mono_l k
  refine ⟨?_, ?_, ?_⟩
  ·intro y0 y1 y2 y3 y4 y5 y6 y7
   unfold cambiumtop_TopSized.j0
   repeat' first
   | (with_reducible exact ih0 _ _ _ _ _ _ _ _)
   | (with_reducible exact ih1 _ _ _ _ _ _ _ _)
   | (with_reducible exact ih2 _ _ _ _)
   | (with_reducible exact data_Read.mono _ _ _ _ _ _)
   | (with_reducible exact data_Write.mono _ _ _ _ _)
   | (with_reducible exact dirs_Check.mono _ _)
   | (with_reducible exact dirs_New.mono _)
   | (with_reducible exact dirs_Walk.mono _ _ _ _)
   | (with_reducible exact inode_Encode.mono _ _ _ _ _ _)
   | (with_reducible exact inode_Key.mono _ _ _ _ _)
   | (with_reducible exact item_Apply.mono _ _ _)
   | (with_reducible exact pack_Number.mono _ _ _)
   | (with_reducible exact LeO.refl _)
   | (with_reducible exact LeO.none _)
   | (with_reducible refine LeO.ite ?_ ?_)
   | (with_reducible refine LeO.bind ?_ (fun _ => ?_))
   | exact ih0 _ _ _ _ _ _ _ _
   | exact ih1 _ _ _ _ _ _ _ _
   | exact ih2 _ _ _ _
   | exact data_Read.mono _ _ _ _ _ _
   | exact data_Write.mono _ _ _ _ _
   | exact dirs_Check.mono _ _
   | exact dirs_New.mono _
   | exact dirs_Walk.mono _ _ _ _
   | exact inode_Encode.mono _ _ _ _ _ _
   | exact inode_Key.mono _ _ _ _ _
   | exact item_Apply.mono _ _ _
   | exact pack_Number.mono _ _ _
   | exact LeO.none _
   | refine LeO.ite ?_ ?_
   | refine LeO.bind ?_ (fun _ => ?_)
  ·intro y0 y1 y2 y3 y4 y5 y6 y7
   unfold cambiumtop_TopSized.l0
   repeat' first
   | (with_reducible exact ih0 _ _ _ _ _ _ _ _)
   | (with_reducible exact ih1 _ _ _ _ _ _ _ _)
   | (with_reducible exact ih2 _ _ _ _)
   | (with_reducible exact data_Read.mono _ _ _ _ _ _)
   | (with_reducible exact data_Write.mono _ _ _ _ _)
   | (with_reducible exact dirs_Check.mono _ _)
   | (with_reducible exact dirs_New.mono _)
   | (with_reducible exact dirs_Walk.mono _ _ _ _)
   | (with_reducible exact inode_Encode.mono _ _ _ _ _ _)
   | (with_reducible exact inode_Key.mono _ _ _ _ _)
   | (with_reducible exact item_Apply.mono _ _ _)
   | (with_reducible exact pack_Number.mono _ _ _)
   | (with_reducible exact LeO.refl _)
   | (with_reducible exact LeO.none _)
   | (with_reducible refine LeO.ite ?_ ?_)
   | (with_reducible refine LeO.bind ?_ (fun _ => ?_))
   | exact ih0 _ _ _ _ _ _ _ _
   | exact ih1 _ _ _ _ _ _ _ _
   | exact ih2 _ _ _ _
   | exact data_Read.mono _ _ _ _ _ _
   | exact data_Write.mono _ _ _ _ _
   | exact dirs_Check.mono _ _
   | exact dirs_New.mono _
   | exact dirs_Walk.mono _ _ _ _
   | exact inode_Encode.mono _ _ _ _ _ _
   | exact inode_Key.mono _ _ _ _ _
   | exact item_Apply.mono _ _ _
   | exact pack_Number.mono _ _ _
   | exact LeO.none _
   | refine LeO.ite ?_ ?_
   | refine LeO.bind ?_ (fun _ => ?_)
  intro y0 y1 y2 y3
  unfold cambiumtop_TopSized.j2
  repeat' first
  | (with_reducible exact ih0 _ _ _ _ _ _ _ _)
  | (with_reducible exact ih1 _ _ _ _ _ _ _ _)
  | (with_reducible exact ih2 _ _ _ _)
  | (with_reducible exact data_Read.mono _ _ _ _ _ _)
  | (with_reducible exact data_Write.mono _ _ _ _ _)
  | (with_reducible exact dirs_Check.mono _ _)
  | (with_reducible exact dirs_New.mono _)
  | (with_reducible exact dirs_Walk.mono _ _ _ _)
  | (with_reducible exact inode_Encode.mono _ _ _ _ _ _)
  | (with_reducible exact inode_Key.mono _ _ _ _ _)
  | (with_reducible exact item_Apply.mono _ _ _)
  | (with_reducible exact pack_Number.mono _ _ _)
  | (with_reducible exact LeO.refl _)
  | (with_reducible exact LeO.none _)
  | (with_reducible refine LeO.ite ?_ ?_)
  | (with_reducible refine LeO.bind ?_ (fun _ => ?_))
  | exact ih0 _ _ _ _ _ _ _ _
  | exact ih1 _ _ _ _ _ _ _ _
  | exact ih2 _ _ _ _
  | exact data_Read.mono _ _ _ _ _ _
  | exact data_Write.mono _ _ _ _ _
  | exact dirs_Check.mono _ _
  | exact dirs_New.mono _
  | exact dirs_Walk.mono _ _ _ _
  | exact inode_Encode.mono _ _ _ _ _ _
  | exact inode_Key.mono _ _ _ _ _
  | exact item_Apply.mono _ _ _
  | exact pack_Number.mono _ _ _
  | exact LeO.none _
  | refine LeO.ite ?_ ?_
  | refine LeO.bind ?_ (fun _ => ?_)
theorem cambiumtop_TopSized.mono : ∀ a0 a1 a2 k, LeO (cambiumtop_TopSized.f k a0 a1 a2) (cambiumtop_TopSized.f (k + 1) a0 a1 a2) := by
 intro a0 a1 a2 k
 obtain ⟨ih0, ih1, ih2⟩ := cambiumtop_TopSized.mono_l k
 unfold cambiumtop_TopSized.f
 repeat' first
   | (with_reducible exact ih0 _ _ _ _ _ _ _ _)
   | (with_reducible exact ih1 _ _ _ _ _ _ _ _)
   | (with_reducible exact ih2 _ _ _ _)
   | (with_reducible exact data_Read.mono _ _ _ _ _ _)
   | (with_reducible exact data_Write.mono _ _ _ _ _)
   | (with_reducible exact dirs_Check.mono _ _)
   | (with_reducible exact dirs_New.mono _)
   | (with_reducible exact dirs_Walk.mono _ _ _ _)
   | (with_reducible exact inode_Encode.mono _ _ _ _ _ _)
   | (with_reducible exact inode_Key.mono _ _ _ _ _)
   | (with_reducible exact item_Apply.mono _ _ _)
   | (with_reducible exact pack_Number.mono _ _ _)
   | (with_reducible exact LeO.refl _)
   | (with_reducible exact LeO.none _)
   | (with_reducible refine LeO.ite ?_ ?_)
   | (with_reducible refine LeO.bind ?_ (fun _ => ?_))
   | exact ih0 _ _ _ _ _ _ _ _
   | exact ih1 _ _ _ _ _ _ _ _
   | exact ih2 _ _ _ _
   | exact data_Read.mono _ _ _ _ _ _
   | exact data_Write.mono _ _ _ _ _
   | exact dirs_Check.mono _ _
   | exact dirs_New.mono _
   | exact dirs_Walk.mono _ _ _ _
   | exact inode_Encode.mono _ _ _ _ _ _
   | exact inode_Key.mono _ _ _ _ _
   | exact item_Apply.mono _ _ _
   | exact pack_Number.mono _ _ _
   | exact LeO.none _
   | refine LeO.ite ?_ ?_
   | refine LeO.bind ?_ (fun _ => ?_)
set_option maxHeartbeats 8000000 in
set_option maxRecDepth 100000 in
theorem cambiumtop_TopSized.calls (k : Nat) (a0 : ByteArray) (a1 : Int) (a2 : Int) (r : Bool) (w : World) (h : cambiumtop_TopSized.f k a0 a1 a2 = some r) (hT_ : r = true := by rfl) :
  Calls Tryz.prog 3 #[.string a0, .int .u32 a1, .int .u32 a2] w fun e w' => e = .returned (.bool r) ∧ Below w.heap.size w w' := by
 have HT_ := Aside0.mk hT_
 clear hT_
 have hu33 := Tryz.underlying33
 have hu37 := Tryz.underlying37
 have hu41 := Tryz.underlying41
 have HB := Aside0.mk (Below.refl w.heap.size w)
 have H : ((cambiumtop_begins.f).bind fun t307 => (if t307 = true then ((data_Write.f k ([] : List (S71)) 2 a1 a0).bind fun bt308 => ((inode_Encode.f k 2 0 1 a2 (⟨#[]⟩ : ByteArray)).bind fun bt312 => (if bt308.2 = 0 then (cambiumtop_TopSized.j0 k a0 a1 a2 bt308.1 bt308.2 bt312.1 bt312.2 (bt312.2 != 0)) else (cambiumtop_TopSized.j0 k a0 a1 a2 bt308.1 bt308.2 bt312.1 bt312.2 true)))) else (some false))) = some r := h
 clear h
 replace H := Option.bind_eq_some_iff.mp H
 obtain ⟨t307, A40, H⟩ := H
 replace H : (if t307 = true then ((data_Write.f k ([] : List (S71)) 2 a1 a0).bind fun bt308 => ((inode_Encode.f k 2 0 1 a2 (⟨#[]⟩ : ByteArray)).bind fun bt312 => (if bt308.2 = 0 then (cambiumtop_TopSized.j0 k a0 a1 a2 bt308.1 bt308.2 bt312.1 bt312.2 (bt312.2 != 0)) else (cambiumtop_TopSized.j0 k a0 a1 a2 bt308.1 bt308.2 bt312.1 bt312.2 true)))) else (some false)) = some r := H
 have A4 := Aside0.mk A40
 clear A40
 by_cases c5 : t307 = true
 ·subst c5
  have H1 : ((data_Write.f k ([] : List (S71)) 2 a1 a0).bind fun bt308 => ((inode_Encode.f k 2 0 1 a2 (⟨#[]⟩ : ByteArray)).bind fun bt312 => (if bt308.2 = 0 then (cambiumtop_TopSized.j0 k a0 a1 a2 bt308.1 bt308.2 bt312.1 bt312.2 (bt312.2 != 0)) else (cambiumtop_TopSized.j0 k a0 a1 a2 bt308.1 bt308.2 bt312.1 bt312.2 true)))) = some r := by rw [if_pos rfl] at H; exact H
  clear H
  have H := H1
  clear H1
  replace H := Option.bind_eq_some_iff.mp H
  obtain ⟨⟨t308, t309⟩, A60, H⟩ := H
  replace H : ((inode_Encode.f k 2 0 1 a2 (⟨#[]⟩ : ByteArray)).bind fun bt312 => (if t309 = 0 then (cambiumtop_TopSized.j0 k a0 a1 a2 t308 t309 bt312.1 bt312.2 (bt312.2 != 0)) else (cambiumtop_TopSized.j0 k a0 a1 a2 t308 t309 bt312.1 bt312.2 true))) = some r := H
  have A6 := Aside0.mk A60
  clear A60
  replace H := Option.bind_eq_some_iff.mp H
  obtain ⟨⟨t312, t313⟩, A70, H⟩ := H
  replace H : (if t309 = 0 then (cambiumtop_TopSized.j0 k a0 a1 a2 t308 t309 t312 t313 (t313 != 0)) else (cambiumtop_TopSized.j0 k a0 a1 a2 t308 t309 t312 t313 true)) = some r := H
  have A7 := Aside0.mk A70
  clear A70
  have HC8 := Aside0.mk H
  clear H
  go_enter Tryz.func3, Tryz.ntmps3
  go_upto_region 5 with (first | ((with_reducible refine gate_callee (f := 4) rfl ?_); refine gl_ (some 26) Tryz.func4 #[] ?_; (with_reducible refine (cambiumtop_begins.calls  true _ A4.out).mono ?_); rintro e w9 ⟨rfl, hb⟩; refine ⟨_, rfl, ?_⟩; have n0_ := Aside0.mk (below_step bel_ hb); clear HB; have HB := n0_; clear n0_; (try clear hb); (try clear hb2); (try clear hk); (try clear hi)) | ((with_reducible refine gate_callee (f := 5) rfl ?_); refine gl_ (some 31) Tryz.func5 #[.slice none 0 0, .int .u32 2, .int .u32 a1, .string a0] ?_; (refine (data_Write.calls k _ _ ([] : List (S71)) 2 a1 a0 t308 t309 _ ?side1 ?side2 A6.out).mono ?_); (case side1 => exact Kd.C_nil _ _); (case side2 => exact Nat.le_refl _); rintro e w10 ⟨v310, rfl, ho0, hb⟩; refine ⟨_, rfl, ?_⟩; have n0_ := Aside0.mk (Kd.R_lower ho0 (below_size bel_)); have n1_ := Aside0.mk (below_step bel_ hb); clear HB; have HO311 := n0_; have HB := n1_; clear n0_ n1_; (try clear hb); (try clear hb2); (try clear hk); (try clear hi); (try clear ho0)) | ((with_reducible refine gate_callee (f := 6) rfl ?_); refine gl_ (some 37) Tryz.func6 #[.agg #[.int .u8 2, .int .u16 0, .int .u32 1, .int .u32 a2, .string (⟨#[]⟩ : ByteArray)]] ?_; (with_reducible refine (inode_Encode.calls k 2 0 1 a2 (⟨#[]⟩ : ByteArray) t312 t313 _ A7.out).mono ?_); rintro e w11 ⟨rfl, hb⟩; refine ⟨_, rfl, ?_⟩; have n0_ := Aside0.mk (Kd.R_below (ra_ HO311) hb); have n1_ := Aside0.mk (below_step bel_ hb); clear HO311; clear HB; have HO311 := n0_; have HB := n1_; clear n0_ n1_; (try clear hb); (try clear hb2); (try clear hk); (try clear hi)))
  (try simp only [Act.put, List.setIfInBounds_toArray, List.set_cons_zero, List.set_cons_succ])
  go_cut [45] (fun v45 wc => ∃ (kq : Nat) (x45_7 : Bool), v45 = .bool x45_7 ∧ Aside0 (cambiumtop_TopSized.j0 kq a0 a1 a2 t308 t309 t312 t313 x45_7 = some r) ∧ Aside0 (kq ≤ k) ∧ Aside0 (Kd.R k41 41 wc w.heap.size (fun _ => True) v310 t308) ∧ Aside0 (Below w.heap.size w wc))
  case first =>
   have H := HC8.out
   clear HC8
   by_cases c12 : t309 = 0
   ·rw [if_pos c12] at H
    have c12b0 : (t309 == 0) = true := beq_iff_eq.mpr c12
    have c12b1 : (t309 != 0) = false := bne_eq_false_iff_eq.mpr c12
    clear c12
    (first | rw [c12b0] | (simp only [i64_w, i32_w]; rw [c12b0]) | skip)
    have H' := Aside0.mk H
    clear H
    go_wp2
    go_meet
    case rel => exact ⟨_, ((t313 != 0)), (by first | rfl | (simp; done) | (simp [*]; done)), H', ⟨by first | omega | exact Nat.le_refl _⟩, ⟨ra_ HO311⟩, ⟨bel_⟩⟩
   rw [if_neg c12] at H
   have c12b0 : (t309 == 0) = false := beq_eq_false_iff_ne.mpr c12
   have c12b1 : (t309 != 0) = true := bne_iff_ne.mpr c12
   (first | rw [c12b0] | (simp only [i64_w, i32_w]; rw [c12b0]) | skip)
   have H' := Aside0.mk H
   clear H
   go_wp2
   go_meet
   case rel => exact ⟨_, (true), (by first | rfl | (simp; done) | (simp [*]; done)), H', ⟨by first | omega | exact Nat.le_refl _⟩, ⟨ra_ HO311⟩, ⟨bel_⟩⟩
  case rest =>
   clear HC8
   try clear c1
   try clear p2
   try clear c3
   try clear c4
   try clear c5
   try clear c6
   try clear c12
   try clear c12b0
   try clear c12b1
   obtain ⟨kq, x45_7, rfl, HA, HJ7, HO_7, HB⟩ := hcut
   cases kq with
   | zero => exact absurd HA.out (by simp [cambiumtop_TopSized.j0])
   | succ kj7 =>
    have H := HA.out
    clear HA
    simp only [cambiumtop_TopSized.j0] at H
    by_cases c13 : x45_7 = true
    ·subst c13
     have H1 : (if t309 = 1 then (some true) else (some (t313 == 4))) = some r := by rw [if_pos rfl] at H; exact H
     clear H
     have H := H1
     clear H1
     by_cases c14 : t309 = 1
     ·rw [if_pos c14] at H
      have c14b0 : (t309 == 1) = true := beq_iff_eq.mpr c14
      have c14b1 : (t309 != 1) = false := bne_eq_false_iff_eq.mpr c14
      clear c14
      obtain rfl := Option.some.inj H
      go_wp2
      go_ret
      exact ⟨by first | rfl | (simp [errW_none, errW_some] <;> rfl) | (simp [*, errW_none, errW_some] <;> rfl), bel_⟩
     rw [if_neg c14] at H
     have c14b0 : (t309 == 1) = false := beq_eq_false_iff_ne.mpr c14
     have c14b1 : (t309 != 1) = true := bne_iff_ne.mpr c14
     obtain rfl := Option.some.inj H
     go_wp2
     go_ret
     exact ⟨by first | rfl | (simp [errW_none, errW_some] <;> rfl) | (simp [*, errW_none, errW_some] <;> rfl), bel_⟩
    replace c13 := Bool.eq_false_iff.mpr c13
    subst c13
    have H1 : ((inode_Key.f kj7 1 2 (⟨#[]⟩ : ByteArray) 0).bind fun bt314 => ((inode_Key.f kj7 2 1 (⟨#[97]⟩ : ByteArray) 0).bind fun bt316 => ((pack_Number.f kj7 2 4).bind fun bt318 => ((some (([(⟨bt314.1, true, t312⟩ : S41), (⟨bt316.1, true, bt318.1⟩ : S41)] : List (S41)) : List (S41))).bind fun y320 => (if t308.length + y320.length < 3518437208883 then ((dirs_New.f kj7).bind fun t326 => ((item_Apply.f kj7 t326 (t308 ++ y320)).bind fun bt329 => (cambiumtop_TopSized.l0 kj7 a0 a1 a2 bt329.1 bt329.2 0 (a0.size : Int) 0))) else (none)))))) = some r := by rw [if_neg (show ¬ (false = true) by decide)] at H; exact H
    clear H
    have H := H1
    clear H1
    replace H := Option.bind_eq_some_iff.mp H
    obtain ⟨⟨t314, t315⟩, A150, H⟩ := H
    replace H : ((inode_Key.f kj7 2 1 (⟨#[97]⟩ : ByteArray) 0).bind fun bt316 => ((pack_Number.f kj7 2 4).bind fun bt318 => ((some (([(⟨t314, true, t312⟩ : S41), (⟨bt316.1, true, bt318.1⟩ : S41)] : List (S41)) : List (S41))).bind fun y320 => (if t308.length + y320.length < 3518437208883 then ((dirs_New.f kj7).bind fun t326 => ((item_Apply.f kj7 t326 (t308 ++ y320)).bind fun bt329 => (cambiumtop_TopSized.l0 kj7 a0 a1 a2 bt329.1 bt329.2 0 (a0.size : Int) 0))) else (none))))) = some r := H
    have A15 := Aside0.mk A150
    clear A150
    replace H := Option.bind_eq_some_iff.mp H
    obtain ⟨⟨t316, t317⟩, A160, H⟩ := H
    replace H : ((pack_Number.f kj7 2 4).bind fun bt318 => ((some (([(⟨t314, true, t312⟩ : S41), (⟨t316, true, bt318.1⟩ : S41)] : List (S41)) : List (S41))).bind fun y320 => (if t308.length + y320.length < 3518437208883 then ((dirs_New.f kj7).bind fun t326 => ((item_Apply.f kj7 t326 (t308 ++ y320)).bind fun bt329 => (cambiumtop_TopSized.l0 kj7 a0 a1 a2 bt329.1 bt329.2 0 (a0.size : Int) 0))) else (none)))) = some r := H
    have A16 := Aside0.mk A160
    clear A160
    replace H := Option.bind_eq_some_iff.mp H
    obtain ⟨⟨t318, t319⟩, A170, H⟩ := H
    replace H : ((some (([(⟨t314, true, t312⟩ : S41), (⟨t316, true, t318⟩ : S41)] : List (S41)) : List (S41))).bind fun y320 => (if t308.length + y320.length < 3518437208883 then ((dirs_New.f kj7).bind fun t326 => ((item_Apply.f kj7 t326 (t308 ++ y320)).bind fun bt329 => (cambiumtop_TopSized.l0 kj7 a0 a1 a2 bt329.1 bt329.2 0 (a0.size : Int) 0))) else (none))) = some r := H
    have A17 := Aside0.mk A170
    clear A170
    obtain ⟨y320, hy320⟩ : ∃ y_ : List (S41), y_ = (([(⟨t314, true, t312⟩ : S41), (⟨t316, true, t318⟩ : S41)] : List (S41))) := ⟨_, rfl⟩
    replace H : (if t308.length + y320.length < 3518437208883 then ((dirs_New.f kj7).bind fun t326 => ((item_Apply.f kj7 t326 (t308 ++ y320)).bind fun bt329 => (cambiumtop_TopSized.l0 kj7 a0 a1 a2 bt329.1 bt329.2 0 (a0.size : Int) 0))) else (none)) = some r := by first | (rw [hy320]; with_reducible exact H) | (have H2_ := (Option.bind_some _ _).symm.trans H; rw [hy320]; with_reducible exact H2_) | (have H2_ := (Option.bind_some _ _).symm.trans H; with_reducible exact H2_) | with_reducible exact H | (rw [hy320]; exact H) | exact H
    have Ny320 := Aside0.mk hy320
    clear hy320
    by_cases c18 : t308.length + y320.length < 3518437208883
    ·rw [if_pos c18] at H
     have LMc18 := Aside0.mk c18
     clear c18
     obtain ⟨y323, hy323⟩ : ∃ y_ : List (S41), y_ = (t308 ++ y320) := ⟨_, rfl⟩
     replace H : ((dirs_New.f kj7).bind fun t326 => ((item_Apply.f kj7 t326 y323).bind fun bt329 => (cambiumtop_TopSized.l0 kj7 a0 a1 a2 bt329.1 bt329.2 0 (a0.size : Int) 0))) = some r := by first | (rw [hy323]; with_reducible exact H) | (have H2_ := (Option.bind_some _ _).symm.trans H; rw [hy323]; with_reducible exact H2_) | (have H2_ := (Option.bind_some _ _).symm.trans H; with_reducible exact H2_) | with_reducible exact H | (rw [hy323]; exact H) | exact H
     have Ny323 := Aside0.mk hy323
     clear hy323
     replace H := Option.bind_eq_some_iff.mp H
     obtain ⟨t326, A190, H⟩ := H
     replace H : ((item_Apply.f kj7 t326 y323).bind fun bt329 => (cambiumtop_TopSized.l0 kj7 a0 a1 a2 bt329.1 bt329.2 0 (a0.size : Int) 0)) = some r := H
     have A19 := Aside0.mk A190
     clear A190
     replace H := Option.bind_eq_some_iff.mp H
     obtain ⟨⟨t329, t330⟩, A200, H⟩ := H
     replace H : (cambiumtop_TopSized.l0 kj7 a0 a1 a2 t329 t330 0 (a0.size : Int) 0) = some r := H
     have A20 := Aside0.mk A200
     clear A200
     have H' := Aside0.mk H
     clear H
     go_wp2_with (first | ((with_reducible refine gate_callee (f := 7) rfl ?_); refine gl_ (some 54) Tryz.func7 #[.agg #[.int .u8 1, .int .u32 2, .string (⟨#[]⟩ : ByteArray), .int .u32 0]] ?_; (with_reducible refine (inode_Key.calls kj7 1 2 (⟨#[]⟩ : ByteArray) 0 t314 t315 _ A15.out).mono ?_); rintro e w21 ⟨rfl, hb⟩; refine ⟨_, rfl, ?_⟩; replace HO_7 := rb_ HO_7 hb; replace HB := hb_ hb; (try clear hb); (try clear hb2); (try clear hk); (try clear hi)) | ((with_reducible refine gate_callee (f := 7) rfl ?_); refine gl_ (some 59) Tryz.func7 #[.agg #[.int .u8 2, .int .u32 1, .string (⟨#[97]⟩ : ByteArray), .int .u32 0]] ?_; (with_reducible refine (inode_Key.calls kj7 2 1 (⟨#[97]⟩ : ByteArray) 0 t316 t317 _ A16.out).mono ?_); rintro e w22 ⟨rfl, hb⟩; refine ⟨_, rfl, ?_⟩; replace HO_7 := rb_ HO_7 hb; replace HB := hb_ hb; (try clear hb); (try clear hb2); (try clear hk); (try clear hi)) | ((with_reducible refine gate_callee (f := 8) rfl ?_); refine gl_ (some 63) Tryz.func8 #[.int .u64 2, .int .i64 4] ?_; (with_reducible refine (pack_Number.calls kj7 2 4 t318 t319 _ A17.out).mono ?_); rintro e w23 ⟨rfl, hb⟩; refine ⟨_, rfl, ?_⟩; replace HO_7 := rb_ HO_7 hb; replace HB := hb_ hb; (try clear hb); (try clear hb2); (try clear hk); (try clear hi)) | ((with_reducible refine gate_dst (N := 73) rfl ?_); (try (refine gate_guard (by rfl) ?_; dsimp only)); refine Kd.R_lit k41 _ 41 ?hg (N := 73) ?hd (xs := ([(⟨t314, true, t312⟩ : S41), (⟨t316, true, t318⟩ : S41)] : List (S41))) (inner := [.string t314, .bool true, .string t312, .string t316, .bool true, .string t318]) (ok := fun _ => True) (okp := fun _ => True) ?hr ?hp (fun _ hk => hk) trivial (Below.refl _ _) (Nat.le_refl _) (by simp) ?_; (case hd => rfl); (case hg => rfl); (case hr => first | (go_simp; done) | (go_simp; rfl)); (case hp => exact (Reps.c3 (show Kd.M k41 _ _ _ (⟨t314, true, t312⟩ : S41) [.string t314, .bool true, .string t312] from (k41_mkM _ _ _ (⟨t314, true, t312⟩ : S41) )) (Reps.c3 (show Kd.M k41 _ _ _ (⟨t316, true, t318⟩ : S41) [.string t316, .bool true, .string t318] from (k41_mkM _ _ _ (⟨t316, true, t318⟩ : S41) )) (Reps.none _ _)))); intro v321 w24 ho25 hb hg_ hnew_; clear hg_ hnew_; (first | rw [← Ny320.out] at ho25 | (simp only [Int.reduceToNat] at ho25; rw [← Ny320.out] at ho25)); have HO322 := Aside0.mk (Kd.R_lower (Kd.R_new' ho25 (Kd.R_lt (ra_ HO_7))) (below_size bel_)); replace HO_7 := Aside0.mk (Kd.R_elder' (ra_ HO_7) (Kd.R_base ho25) hb); replace HB := hb_ hb; clear hb ho25; obtain ⟨Ao27, co27, eo27⟩ := Kd.R_slice HO322.out; subst eo27) | ((with_reducible refine gate_builtin (b := .append) (xs := #[.tmp 66, .tmp 73]) rfl ?_); (try (refine gate_guard (by rfl) ?_; dsimp only)); at_builtin; refine Kd.R_append_rows k41 (w0 := w) w.heap.size rfl (.tmp 66) (.tmp 73) 24 41 (.agg #[(.string ⟨#[]⟩), (.bool false), (.string ⟨#[]⟩)]) 40 rfl Tryz.underlying24 info41 rfl (by decide) (by omega) v310 t308 y320 _ _ _ (fun k_ => some k_ ≠ (.slice Ao27 y320.length co27 : Value).ownBlock) (fun _ => False) rfl rfl ?aO ?aR (fun _ _ h => h) (fun _ h => h.elim) ?aF ?aB ?aS ?aL ?_; (case aR => exact cr_ HO322); (case aB => exact bel_); (case aF => exact (fun k_ hk => Kd.fresh' (Kd.R_lt (ra_ HO322)) k_ hk)); (case aO => exact (by (with_reducible repeat (first | apply Kd.R_alloc | apply Kd.R_drewN | apply Kd.R_drew)); exact Kd.R_mono HO_7.out (fun _ hk => hk.2))); (case aS => exact (below_size bel_)); (case aL => have := LMc18.out; omega); intro v324 w26 ho hb hg hat; rw [← Ny323.out] at ho; have HO325 := Aside0.mk (ho); replace HO322 := Aside0.mk (Kd.R_after (ok := (fun _ => True)) (ra_ HO322) hg hat); replace HB := Aside0.mk (hb); clear HO_7; clear ho hb hg hat) | ((with_reducible refine gate_callee (f := 10) rfl ?_); refine gl_ (some 76) Tryz.func10 #[] ?_; (with_reducible refine (dirs_New.calls kj7  t326 _ A19.out).mono ?_); rintro e w28 ⟨v327, rfl, ho0, hb⟩; refine ⟨_, rfl, ?_⟩; have HO328 := rl_ ho0; replace HO322 := rb_ HO322 hb; replace HO325 := rb_ HO325 hb; replace HB := hb_ hb; (try clear hb); (try clear hb2); (try clear hk); (try clear hi); (try clear ho0); obtain ⟨Ao29, co29, eo29⟩ := Kd.R_slice HO328.out; subst eo29; obtain ⟨Ao30, co30, eo30⟩ := Kd.R_slice HO325.out; subst eo30) | ((with_reducible refine gate_callee (f := 9) rfl ?_); refine gl_ (some 78) Tryz.func9 #[.slice Ao29 t326.length co29, .slice Ao30 y323.length co30] ?_; (with_reducible refine (item_Apply.calls kj7 _ _ t326 _ _ y323 t329 t330 _ ?side1 ?side2 ?side3 ?side4 A20.out).mono ?_); (case side1 => exact cr_ HO328); (case side2 => exact (Kd.R_reads' HO328.out).2.1); (case side3 => exact cr_ HO325); (case side4 => exact (Kd.R_reads' HO325.out).2.1); rintro e w31 ⟨v331, rfl, ho0, hb⟩; refine ⟨_, rfl, ?_⟩; have HO332 := Aside0.mk (Kd.R_lower (Kd.R_new' ho0 (Kd.R_lt (ra_ HO328))) (below_size bel_)); replace HO322 := rb_ HO322 hb; replace HO325 := rb_ HO325 hb; replace HO328 := Aside0.mk (Kd.R_elder' (ra_ HO328) (Kd.R_base ho0) hb); replace HB := hb_ hb; (try clear hb); (try clear hb2); (try clear hk); (try clear hi); (try clear ho0)))
     go_loopg [19, 83] kj7 (fun kq v19 v83 w' => ∃ (x19_2 : Int) (x83_2 : Int), v19 = .int .u64 x19_2 ∧ v83 = .int .i64 x83_2 ∧ Aside0 (cambiumtop_TopSized.l0 kq a0 a1 a2 t329 t330 x19_2 (a0.size : Int) x83_2 = some r) ∧ Aside0 (kq ≤ kj7) ∧ Aside0 (Kd.R k71 71 w' w.heap.size (fun _ => True) v331 t329) ∧ Aside0 (Below w.heap.size w w'))
     case atStart => exact ⟨(0), (0), (by first | rfl | (simp; done) | (simp [*]; done)), (by first | rfl | (simp; done) | (simp [*]; done)), H', ⟨Nat.le_refl _⟩, ⟨by (with_reducible repeat (first | apply Kd.R_alloc | apply Kd.R_drewN | apply Kd.R_drew)); exact Kd.R_mono HO332.out (fun _ hk => trivial)⟩, ⟨bel_⟩⟩
     case round =>
      clear H'
      try clear c1
      try clear p2
      try clear c3
      try clear c4
      try clear c5
      try clear c6
      try clear c7
      try clear c8
      try clear c9
      try clear c10
      try clear c12
      try clear c12b0
      try clear c12b1
      try clear c13
      try clear c14
      try clear c14b0
      try clear c14b1
      try clear c18
      try clear p2
      obtain ⟨x19_2, x83_2, rfl, rfl, HA, HK2, HO_17, HB⟩ := hrel
      cases gk with
      | zero => exact absurd HA.out (by simp [cambiumtop_TopSized.l0])
      | succ k2 =>
       have H := HA.out
       clear HA
       simp only [cambiumtop_TopSized.l0] at H
       by_cases c32 : x83_2 < (a0.size : Int)
       ·rw [if_pos c32] at H
        have c32b0 : decide (x83_2 < (a0.size : Int)) = true := decide_eq_true c32
        clear c32
        by_cases c33 : 0 ≤ x83_2
        ·rw [if_pos c33] at H
         have c33b0 : decide (0 ≤ x83_2) = true := decide_eq_true c33
         clear c33
         by_cases c34 : x83_2 < (a0.size : Int)
         ·rw [if_pos c34] at H
          have c34b0 : decide (x83_2 < (a0.size : Int)) = true := decide_eq_true c34
          clear c34
          by_cases c36 : (bt a0 x83_2) = 0
          ·rw [if_pos c36] at H
           have c36b0 : ((bt a0 x83_2) == 0) = true := beq_iff_eq.mpr c36
           have c36b1 : ((bt a0 x83_2) != 0) = false := bne_eq_false_iff_eq.mpr c36
           clear c36
           have H' := Aside0.mk H
           clear H
           have p35 : 0 ≤ (x83_2 : Int) := of_decide_eq_true (by first | (with_reducible assumption) | assumption)
           have q35 : x83_2 < (a0.size : Int) := of_decide_eq_true (by first | (with_reducible assumption) | assumption)
           have hx35 := bt_at a0 x83_2
           replace p35 := eq_true p35
           replace q35 := eq_true q35
           go_wp2
           go_roundg k2
           case measure => have := HJ7.out; have := HK2.out; omega
           case rel => exact ⟨(x19_2), (wrap64 (x83_2 + 1)), (by first | rfl | (simp; done) | (simp [*]; done)), (by first | rfl | (simp; done) | (simp [*]; done)), H', ⟨by have := HJ7.out; have := HK2.out; omega⟩, ⟨ra_ HO_17⟩, ⟨bel_⟩⟩
          rw [if_neg c36] at H
          have c36b0 : ((bt a0 x83_2) == 0) = false := beq_eq_false_iff_ne.mpr c36
          have c36b1 : ((bt a0 x83_2) != 0) = true := bne_iff_ne.mpr c36
          have H' := Aside0.mk H
          clear H
          have p35 : 0 ≤ (x83_2 : Int) := of_decide_eq_true (by first | (with_reducible assumption) | assumption)
          have q35 : x83_2 < (a0.size : Int) := of_decide_eq_true (by first | (with_reducible assumption) | assumption)
          have hx35 := bt_at a0 x83_2
          replace p35 := eq_true p35
          replace q35 := eq_true q35
          go_wp2
          go_roundg k2
          case measure => have := HJ7.out; have := HK2.out; omega
          case rel => exact ⟨(IntKind.u64.wrap ((IntKind.u64.wrap ((IntKind.u64.wrap (a1)) + (IntKind.u64.wrap (x83_2)))) + 1)), (wrap64 (x83_2 + 1)), (by first | rfl | (simp; done) | (simp [*]; done)), (by first | rfl | (simp; done) | (simp [*]; done)), H', ⟨by have := HJ7.out; have := HK2.out; omega⟩, ⟨ra_ HO_17⟩, ⟨bel_⟩⟩
         rw [if_neg c34] at H
         exact absurd H (by simp)
        rw [if_neg c33] at H
        exact absurd H (by simp)
       rw [if_neg c32] at H
       have c32b0 : decide (x83_2 < (a0.size : Int)) = false := decide_eq_false c32
       clear c32
       replace H := Option.bind_eq_some_iff.mp H
       obtain ⟨t333, A370, H⟩ := H
       replace H : (if t330 = 0 then (cambiumtop_TopSized.j2 k2 a2 t329 (t333 == 0) ((t333 == 0) != (decide ((IntKind.u64.wrap (a2)) ≥ x19_2)))) else (cambiumtop_TopSized.j2 k2 a2 t329 (t333 == 0) true)) = some r := H
       have A37 := Aside0.mk A370
       clear A370
       have HC38 := Aside0.mk H
       clear H
       obtain ⟨Ao39, co39, eo39⟩ := Kd.R_slice HO_17.out
       subst eo39
       go_upto_region 20 with (first | ((with_reducible refine gate_callee (f := 11) rfl ?_); refine gl_ (some 98) Tryz.func11 #[.slice Ao39 t329.length co39] ?_; (with_reducible refine (dirs_Check.calls k2 _ _ t329 t333 _ ?side1 ?side2 A37.out).mono ?_); (case side1 => exact cr_ HO_17); (case side2 => exact (Kd.R_reads' HO_17.out).2.1); rintro e w40 ⟨rfl, hb⟩; refine ⟨_, rfl, ?_⟩; have n0_ := Aside0.mk (Kd.R_below (ra_ HO_17) hb); have n1_ := Aside0.mk (below_step bel_ hb); clear HO_17; clear HB; have HO_17 := n0_; have HB := n1_; clear n0_ n1_; (try clear hb); (try clear hb2); (try clear hk); (try clear hi)))
       (try simp only [Act.put, List.setIfInBounds_toArray, List.set_cons_zero, List.set_cons_succ])
       go_cut [109] (fun v109 wc => ∃ (kq : Nat) (x109_37 : Bool), v109 = .bool x109_37 ∧ Aside0 (cambiumtop_TopSized.j2 kq a2 t329 (t333 == 0) x109_37 = some r) ∧ Aside0 (kq ≤ k2) ∧ Aside0 (Kd.R k71 71 wc w.heap.size (fun _ => True) (.slice Ao39 t329.length co39) t329) ∧ Aside0 (Below w.heap.size w wc))
       case first =>
        have H := HC38.out
        clear HC38
        by_cases c41 : t330 = 0
        ·rw [if_pos c41] at H
         have c41b0 : (t330 == 0) = true := beq_iff_eq.mpr c41
         have c41b1 : (t330 != 0) = false := bne_eq_false_iff_eq.mpr c41
         clear c41
         (first | rw [c41b0] | (simp only [i64_w, i32_w]; rw [c41b0]) | skip)
         have H' := Aside0.mk H
         clear H
         go_wp2
         go_meet
         case rel => exact ⟨_, (((t333 == 0) != (decide ((IntKind.u64.wrap (a2)) ≥ x19_2)))), (by first | rfl | (simp; done) | (simp [*]; done)), H', ⟨by have := HJ7.out; have := HK2.out; first | omega | exact Nat.le_refl _⟩, ⟨ra_ HO_17⟩, ⟨bel_⟩⟩
        rw [if_neg c41] at H
        have c41b0 : (t330 == 0) = false := beq_eq_false_iff_ne.mpr c41
        have c41b1 : (t330 != 0) = true := bne_iff_ne.mpr c41
        (first | rw [c41b0] | (simp only [i64_w, i32_w]; rw [c41b0]) | skip)
        have H' := Aside0.mk H
        clear H
        go_wp2
        go_meet
        case rel => exact ⟨_, (true), (by first | rfl | (simp; done) | (simp [*]; done)), H', ⟨by have := HJ7.out; have := HK2.out; first | omega | exact Nat.le_refl _⟩, ⟨ra_ HO_17⟩, ⟨bel_⟩⟩
       case rest =>
        clear HC38
        try clear c1
        try clear p2
        try clear c3
        try clear p3
        try clear q3
        try clear hx3
        try clear c4
        try clear c5
        try clear c6
        try clear p6
        try clear c7
        try clear c8
        try clear c9
        try clear c10
        try clear c11
        try clear c12
        try clear c12b0
        try clear c12b1
        try clear c13
        try clear c14
        try clear c14b0
        try clear c14b1
        try clear c18
        try clear c32
        try clear c32b0
        try clear c33
        try clear c33b0
        try clear c34
        try clear c34b0
        try clear p35
        try clear q35
        try clear hx35
        try clear c36
        try clear c36b0
        try clear c36b1
        try clear c41
        try clear c41b0
        try clear c41b1
        try clear p2
        try clear p35
        try clear q35
        obtain ⟨kq, x109_37, rfl, HA, HJ37, HO_17, HB⟩ := hcut
        cases kq with
        | zero => exact absurd HA.out (by simp [cambiumtop_TopSized.j2])
        | succ kj37 =>
         have H := HA.out
         clear HA
         simp only [cambiumtop_TopSized.j2] at H
         by_cases c42 : x109_37 = true
         ·subst c42
          have H1 : (some false) = some r := by rw [if_pos rfl] at H; exact H
          clear H
          have H := H1
          clear H1
          exact absurd ((Option.some.inj H).trans HT_.out) (by simp)
         replace c42 := Bool.eq_false_iff.mpr c42
         subst c42
         have H1 : (if (t333 == 0) = true then ((dirs_Walk.f kj37 t329 (([(⟨#[97]⟩ : ByteArray)] : List ByteArray)) true).bind fun bt337 => ((data_Read.f kj37 t329 bt337.1 a2 0 a2).bind fun bt339 => (if bt337.2 = 0 then (if bt337.1 = 2 then (if bt339.2 = 0 then (some ((bt339.1.size : Int) == (wrap64 (a2)))) else (some false)) else (some false)) else (some false)))) else (some true)) = some r := by rw [if_neg (show ¬ (false = true) by decide)] at H; exact H
         clear H
         have H := H1
         clear H1
         by_cases c43 : (t333 == 0) = true
         ·rw [if_pos c43] at H
          have c43b0 : (t333 == 0) = true := c43
          (try (have c43b1 : decide (t333 = 0) = true := by simpa using c43))
          (try (have c43b2 : (t333 == 0) = true := by simpa using c43))
          clear c43
          obtain ⟨y334, hy334⟩ : ∃ y_ : List ByteArray, y_ = (([(⟨#[97]⟩ : ByteArray)] : List ByteArray)) := ⟨_, rfl⟩
          replace H : ((dirs_Walk.f kj37 t329 y334 true).bind fun bt337 => ((data_Read.f kj37 t329 bt337.1 a2 0 a2).bind fun bt339 => (if bt337.2 = 0 then (if bt337.1 = 2 then (if bt339.2 = 0 then (some ((bt339.1.size : Int) == (wrap64 (a2)))) else (some false)) else (some false)) else (some false)))) = some r := by first | (rw [hy334]; with_reducible exact H) | (have H2_ := (Option.bind_some _ _).symm.trans H; rw [hy334]; with_reducible exact H2_) | (have H2_ := (Option.bind_some _ _).symm.trans H; with_reducible exact H2_) | with_reducible exact H | (rw [hy334]; exact H) | exact H
          have Ny334 := Aside0.mk hy334
          clear hy334
          replace H := Option.bind_eq_some_iff.mp H
          obtain ⟨⟨t337, t338⟩, A440, H⟩ := H
          replace H : ((data_Read.f kj37 t329 t337 a2 0 a2).bind fun bt339 => (if t338 = 0 then (if t337 = 2 then (if bt339.2 = 0 then (some ((bt339.1.size : Int) == (wrap64 (a2)))) else (some false)) else (some false)) else (some false))) = some r := H
          have A44 := Aside0.mk A440
          clear A440
          replace H := Option.bind_eq_some_iff.mp H
          obtain ⟨⟨t339, t340⟩, A450, H⟩ := H
          replace H : (if t338 = 0 then (if t337 = 2 then (if t340 = 0 then (some ((t339.size : Int) == (wrap64 (a2)))) else (some false)) else (some false)) else (some false)) = some r := H
          have A45 := Aside0.mk A450
          clear A450
          by_cases c46 : t338 = 0
          ·rw [if_pos c46] at H
           have c46b0 : (t338 == 0) = true := beq_iff_eq.mpr c46
           have c46b1 : (t338 != 0) = false := bne_eq_false_iff_eq.mpr c46
           clear c46
           by_cases c47 : t337 = 2
           ·rw [if_pos c47] at H
            have c47b0 : (t337 == 2) = true := beq_iff_eq.mpr c47
            have c47b1 : (t337 != 2) = false := bne_eq_false_iff_eq.mpr c47
            clear c47
            by_cases c48 : t340 = 0
            ·rw [if_pos c48] at H
             have c48b0 : (t340 == 0) = true := beq_iff_eq.mpr c48
             have c48b1 : (t340 != 0) = false := bne_eq_false_iff_eq.mpr c48
             clear c48
             obtain rfl := Option.some.inj H
             go_wp2_with (first | ((with_reducible refine gate_dst (N := 114) rfl ?_); (try (refine gate_guard (by rfl) ?_; dsimp only)); refine Kd.R_lit Kd.string _ 9 ?hg (N := 114) ?hd (xs := ([(⟨#[97]⟩ : ByteArray)] : List ByteArray)) (inner := [.string (⟨#[97]⟩ : ByteArray)]) (ok := fun _ => True) (okp := fun _ => True) ?hr ?hp (fun _ hk => hk) trivial (Below.refl _ _) (Nat.le_refl _) (by simp) ?_; (case hd => rfl); (case hg => rfl); (case hr => first | (go_simp; done) | (go_simp; rfl)); (case hp => exact (Reps.one (show Kd.M Kd.string _ _ _ (⟨#[97]⟩ : ByteArray) [.string (⟨#[97]⟩ : ByteArray)] from rfl) (Reps.none _ _))); intro v335 w49 ho50 hb hg_ hnew_; clear hg_ hnew_; (first | rw [← Ny334.out] at ho50 | (simp only [Int.reduceToNat] at ho50; rw [← Ny334.out] at ho50)); have HO336 := rl_ ho50; replace HO_17 := rb_ HO_17 hb; replace HB := hb_ hb; clear hb ho50; obtain ⟨Ao51, co51, eo51⟩ := Kd.R_slice HO336.out; subst eo51) | ((with_reducible refine gate_callee (f := 12) rfl ?_); refine gl_ (some 115) Tryz.func12 #[.slice Ao39 t329.length co39, .slice Ao51 y334.length co51, .bool true] ?_; (with_reducible refine (dirs_Walk.calls kj37 _ _ t329 _ _ y334 true t337 t338 _ ?side1 ?side2 ?side3 ?side4 A44.out).mono ?_); (case side1 => exact cr_ HO_17); (case side2 => exact (Kd.R_reads' HO_17.out).2.1); (case side3 => exact cr_ HO336); (case side4 => exact (Kd.R_reads' HO336.out).2.1); rintro e w52 ⟨rfl, hb⟩; refine ⟨_, rfl, ?_⟩; replace HO_17 := rb_ HO_17 hb; replace HO336 := rb_ HO336 hb; replace HB := hb_ hb; (try clear hb); (try clear hb2); (try clear hk); (try clear hi)) | ((with_reducible refine gate_callee (f := 13) rfl ?_); refine gl_ (some 123) Tryz.func13 #[.slice Ao39 t329.length co39, .int .u32 t337, .int .u32 a2, .int .u32 0, .int .u32 a2] ?_; (with_reducible refine (data_Read.calls kj37 _ _ t329 t337 a2 0 a2 t339 t340 _ ?side1 ?side2 A45.out).mono ?_); (case side1 => exact cr_ HO_17); (case side2 => exact (Kd.R_reads' HO_17.out).2.1); rintro e w53 ⟨rfl, hb⟩; refine ⟨_, rfl, ?_⟩; replace HO_17 := rb_ HO_17 hb; replace HO336 := rb_ HO336 hb; replace HB := hb_ hb; (try clear hb); (try clear hb2); (try clear hk); (try clear hi)))
             go_ret
             exact ⟨by first | rfl | (simp [errW_none, errW_some] <;> rfl) | (simp [*, errW_none, errW_some] <;> rfl), bel_⟩
            rw [if_neg c48] at H
            have c48b0 : (t340 == 0) = false := beq_eq_false_iff_ne.mpr c48
            have c48b1 : (t340 != 0) = true := bne_iff_ne.mpr c48
            exact absurd ((Option.some.inj H).trans HT_.out) (by simp)
           rw [if_neg c47] at H
           have c47b0 : (t337 == 2) = false := beq_eq_false_iff_ne.mpr c47
           have c47b1 : (t337 != 2) = true := bne_iff_ne.mpr c47
           exact absurd ((Option.some.inj H).trans HT_.out) (by simp)
          rw [if_neg c46] at H
          have c46b0 : (t338 == 0) = false := beq_eq_false_iff_ne.mpr c46
          have c46b1 : (t338 != 0) = true := bne_iff_ne.mpr c46
          exact absurd ((Option.some.inj H).trans HT_.out) (by simp)
         rw [if_neg c43] at H
         have c43b0 : (t333 == 0) = false := by simpa using c43
         (try (have c43b1 : decide (t333 = 0) = false := by simpa using c43))
         (try (have c43b2 : (t333 == 0) = false := by simpa using c43))
         (try (have c43b3 : ¬ (t333 = 0) := by simpa using c43))
         clear c43
         obtain rfl := Option.some.inj H
         go_wp2
         go_ret
         exact ⟨by first | rfl | (simp [errW_none, errW_some] <;> rfl) | (simp [*, errW_none, errW_some] <;> rfl), bel_⟩
    rw [if_neg c18] at H
    exact absurd H (by simp)
 replace c5 := Bool.eq_false_iff.mpr c5
 subst c5
 have H1 : (some false) = some r := by rw [if_neg (show ¬ (false = true) by decide)] at H; exact H
 clear H
 have H := H1
 clear H1
 exact absurd ((Option.some.inj H).trans HT_.out) (by simp)
end Go.Proofs.YthbljhmjppjcjaaGreatDoor.Z
end

section
/- 'lives' of the statements on data is true; the answers' forms. -/
namespace Go.Proofs.YthbljhmjppjcjaaGreatDoor.Z
open Go.RowKit Go.Proofs.YthbljhmjppjcjaaGreatDoorW.PrintWords Go.Proofs.YthbljhmjppjcjaaGreatDoorW.PrintLast Go.Proofs.YthbljhmjppjcjaaGreatDoorW.PrintMore Go.Proofs.YthbljhmjppjcjaaGreatDoor.PM
set_option linter.unusedVariables false
set_option linter.unusedSimpArgs false
theorem writeS_ok {l : List It} (hk : okL l = true) {ino off : Int} (h0 : ino ≠ 0) (ho : 0 ≤ off) {s : ByteArray} (h : off + s.size ≤ 65536) : writeS l ino off s = (wrC l ino off.toNat s.data.toList, 0) := by
  unfold writeS wrC
  rw [if_pos hk, if_neg (fun h' => h'.elim h0 (by omega)), sizeL]
theorem readS_ok {l : List It} (hk : okL l = true) {ino len off n : Int} (h0 : ino ≠ 0) (h : len ≤ 65536) : readS l ino len off n = (ba ((List.range' off.toNat ((min len (off + n)).toNat - off.toNat)).map (byteD l ino)), 0) := by
  unfold readS
  rw [if_pos hk, if_neg (fun h' => h'.elim h0 (by omega))]
theorem aplS_ok {l : List It} {cs : List Ch} (hk : okL l = true) (hc : okC cs = true) : aplS l cs = (apl l cs, 0) := by
  unfold aplS
  rw [hk, hc]
  rfl
end Go.Proofs.YthbljhmjppjcjaaGreatDoor.Z
end

section
/- TopSized, over lists: the law's function answers true. -/
namespace Go.Proofs.YthbljhmjppjcjaaGreatDoor.Pure
open Go.RowKit Go.Proofs.YthbljhmjppjcjaaGreatDoor Go.Proofs.YthbljhmjppjcjaaGreatDoor.Z Go.Proofs.YthbljhmjppjcjaaGreatDoorW.PrintWords Go.Proofs.YthbljhmjppjcjaaGreatDoor.PM
set_option linter.unusedVariables false
set_option linter.unusedSimpArgs false
theorem bt_zero (a : ByteArray) (i : Nat) (h : i < a.data.toList.length) : bt a (i : Int) = 0 ↔ a.data.toList.getD i 0 = 0 := by
  rw [bt_get_ a i h]
  constructor
  · intro hz
    refine UInt8.toNat_inj.1 ?_
    rw [Int.natCast_eq_zero.1 hz]; rfl
  · intro hz; rw [hz]; rfl
theorem sized_l0 (a : ByteArray) (off sz : Int) (ho : 0 ≤ off ∧ off < 4294967296) (ha : a.size ≤ 140737488351232) (L : List It) (w : Int) (v : Bool)
    (hv : Ev (fun k => (dirs_Check.f k L).bind fun t333 => (if w = 0 then (cambiumtop_TopSized.j2 k sz L (t333 == 0) ((t333 == 0) != (decide ((IntKind.u64.wrap sz) ≥ ((endN off.toNat a.data.toList a.data.toList.length : Nat) : Int))))) else (cambiumtop_TopSized.j2 k sz L (t333 == 0) true))) v) : ∀ d i : Nat, a.data.toList.length = i + d →
    Ev (fun k => cambiumtop_TopSized.l0 k a off sz L w ((endN off.toNat a.data.toList i : Nat) : Int) (a.size : Int) (i : Int)) v := by
  have hz := size_len a
  intro d
  induction d with
  | zero =>
    intro i hi
    have hi : a.data.toList.length = i := hi
    subst hi
    refine Ev.step (fun k => by rw [cambiumtop_TopSized.l0]) ?_
    exact Ev.ifn (by omega) hv
  | succ d ih =>
    intro i hi
    have hlt : i < a.data.toList.length := by omega
    have ihh := ih (i + 1) (by omega)
    refine Ev.step (fun k => by rw [cambiumtop_TopSized.l0]) ?_
    rw [w64 (i := (i : Int) + 1) (by omega) (by omega)]
    refine Ev.ifp (by omega) (Ev.ifp (by omega) (Ev.ifp (by omega) ?_))
    refine Ev.ite (fun h0 => ?_) (fun h0 => ?_)
    · have h0 := (bt_zero a i hlt).1 h0
      rw [show endN off.toNat a.data.toList (i + 1) = endN off.toNat a.data.toList i from if_pos h0] at ihh
      exact ihh
    · have h0 := fun h => h0 ((bt_zero a i hlt).2 h)
      rw [show endN off.toNat a.data.toList (i + 1) = off.toNat + i + 1 from if_neg h0] at ihh
      rw [u64w (x := off) (by omega) (by omega), u64w (x := (i : Int)) (by omega) (by omega), u64w (x := off + (i : Int)) (by omega) (by omega), u64w (x := off + (i : Int) + 1) (by omega) (by omega)]
      rw [show off + (i : Int) + 1 = ((off.toNat + i + 1 : Nat) : Int) by omega]
      exact ihh
theorem TopSized : ∀ (a0 : ByteArray) (a1 : Int) (a2 : Int), a0.size ≤ 140737488351232 → (Lit.int .u32 a1).wf = true → (Lit.int .u32 a2).wf = true → ∃ k, Z.cambiumtop_TopSized.f k a0 a1 a2 = some true := by
  intro a off sz ha hw1 hw2
  have ho := wf32 hw1
  have hs := wf32 hw2
  have hz := size_len a
  refine Ev.rounds ?_
  unfold cambiumtop_TopSized.f
  refine Ev.bindc rfl (Ev.ifp rfl ?_)
  refine Ev.bind (data_Write_f [] (by decide) a ⟨by decide, by decide⟩ ho (by omega)) ?_
  refine Ev.bind (encode_f 2 0 1 sz ⟨#[]⟩ ⟨by decide, by decide⟩ ⟨by decide, by decide⟩ ⟨by decide, by decide⟩ hs) ?_
  by_cases hb : off + a.size ≤ 65536
  · rw [writeS_ok (by decide) (by decide) ho.1 hb]
    refine Ev.ifp rfl ?_
    by_cases hsz : sz ≤ 65536
    · have hn : okN 2 1 sz [] = true := decide_eq_true (.inr (.inl ⟨rfl, by decide, hsz, rfl⟩))
      have he : encS 2 0 1 sz (⟨#[]⟩ : ByteArray).data.toList = (enc 2 0 1 sz [], 0) := if_pos hn
      rw [he]
      have hp : off.toNat + a.data.toList.length ≤ 65536 := by omega
      refine Ev.step (fun k => by rw [cambiumtop_TopSized.j0]) (Ev.ifn (show ¬ ((0 : Int) != 0) = true by decide) ?_)
      refine Ev.bind (key_f 1 2 ⟨#[]⟩ 0 (by decide) ⟨by decide, by decide⟩ (by decide)) ?_
      refine Ev.bind (key_f 2 1 ⟨#[97]⟩ 0 (by decide) ⟨by decide, by decide⟩ (by decide)) ?_
      refine Ev.bind (number_f 2 4 (by decide) (by decide) (by decide)) ?_
      refine Ev.bindc (a := [chI sz, chE]) rfl ?_
      have hl := wrC_len [] 2 hp
      refine Ev.ifp (by rw [show ([chI sz, chE] : List Ch).length = 2 from rfl]; show (wrC [] 2 off.toNat a.data.toList).length + 2 < _; omega) ?_
      refine Ev.bind New_f ?_
      have hcl : (wrC [] 2 off.toNat a.data.toList ++ [chI sz, chE]).length ≤ 515 := by rw [List.length_append]; show _ + 2 ≤ _; omega
      refine Ev.bind (itApply [newI] _ (by show 1 + (wrC [] 2 off.toNat a.data.toList ++ [chI sz, chE]).length ≤ _; omega)) ?_
      have hA : aplS [newI] ((wrC [] 2 off.toNat a.data.toList, (0 : Int)).1 ++ [chI sz, chE]) = (volL off.toNat a.data.toList sz, 0) := aplS_ok new_ok (chs_ok hp hs.1 hsz)
      rw [hA]
      have hvo := vol_ok (sz := sz) hp hs.1 hsz
      have hfit : Fit (volL off.toNat a.data.toList sz) := fun x hx => by
        have h1 := ((okL_iff _).1 hvo).1 x hx
        unfold okI okK at h1
        simp only [Bool.and_eq_true, decide_eq_true_eq] at h1
        have hm : 160 ≤ maxLen := by decide
        exact ⟨by omega, by omega⟩
      have hvl : (volL off.toNat a.data.toList sz).length ≤ 4398046511103 := by
        have h1 := apl_len (wrC [] 2 off.toNat a.data.toList ++ [chI sz, chE]) [newI]
        have h3 : ([newI] : List It).length = 1 := rfl
        unfold volL
        omega
      have hgood := sized_iff (p := off.toNat) (s := a.data.toList) (sz := sz) hp hs.1 hsz
      have hwk := fun v hv => sized_walk (p := off.toNat) (s := a.data.toList) (sz := sz) hp hs.1 hsz (v := v) hv
      have e0 : ((0 : Nat) : Int) = ((endN off.toNat a.data.toList 0 : Nat) : Int) := rfl
      show Ev (fun k => cambiumtop_TopSized.l0 k a off sz (volL off.toNat a.data.toList sz) 0 ((endN off.toNat a.data.toList 0 : Nat) : Int) (a.size : Int) ((0 : Nat) : Int)) true
      refine sized_l0 a off sz ho ha _ 0 true ?_ a.data.toList.length 0 (Nat.zero_add _).symm
      generalize volL off.toNat a.data.toList sz = V at hvo hfit hvl hgood hwk ⊢
      generalize (endN off.toNat a.data.toList a.data.toList.length : Nat) = E at hgood ⊢
      refine Ev.bind (Check_f hfit hvl) (Ev.ifp rfl ?_)
      rw [u64w (x := sz) hs.1 (by omega)]
      cases hlk : lookS V with
      | none =>
        have : ¬ (E : Int) ≤ sz := fun h => by
          obtain ⟨v, hv⟩ := good_look (hgood.2 h)
          rw [hlk] at hv; cases hv
        rw [show decide (sz ≥ (E : Int)) = false from decide_eq_false this]
        exact Ev.step (fun k => by rw [cambiumtop_TopSized.j2]) (Ev.ifn (by decide) (Ev.ifn (by decide) (Ev.const rfl)))
      | some v =>
        rw [show decide (sz ≥ (E : Int)) = true from decide_eq_true (hgood.1 (look_good hlk))]
        refine Ev.step (fun k => by rw [cambiumtop_TopSized.j2]) (Ev.ifn (show ¬ (((0 : Int) == 0) != true) = true by decide) (Ev.ifp (show ((0 : Int) == 0) = true from rfl) ?_))
        refine Ev.bind (Walk_f hfit hvl [⟨#[97]⟩] (by decide) true) ?_
        have hwr : walkR V [⟨#[97]⟩] true = (2, 0) := by
          unfold walkR
          rw [hlk]
          exact hwk v hlk
        rw [hwr]
        refine Ev.bind (data_Read_f V (by omega) ⟨by decide, by decide⟩ hs.1 ⟨by decide, by decide⟩ hs) ?_
        rw [readS_ok hvo (by decide) hsz]
        refine Ev.ifp rfl (Ev.ifp rfl (Ev.ifp rfl (Ev.const ?_)))
        rw [w64 (i := sz) (by omega) (by omega), ba_size, List.length_map, List.length_range']
        refine congrArg some (beq_iff_eq.2 ?_)
        show (((min sz (0 + sz)).toNat - 0 : Nat) : Int) = sz
        rw [show min sz (0 + sz) = sz by omega]
        omega
    · have hn : encS 2 0 1 sz (⟨#[]⟩ : ByteArray).data.toList = ([], 4) := if_neg (fun h => by
        have h := of_decide_eq_true h
        rcases h with h | h | h
        · exact absurd h.1 (by decide)
        · exact hsz h.2.2.1
        · exact absurd h.1 (by decide))
      rw [hn]
      refine Ev.step (fun k => by rw [cambiumtop_TopSized.j0]) ?_
      exact Ev.ifp (show ((4 : Int) != 0) = true by decide) (Ev.ifn (show ¬ (0 : Int) = 1 by decide) (Ev.const rfl))
  · have he : writeS [] 2 off a = ([], 1) := by
      unfold writeS
      rw [if_pos (by decide), if_pos (.inr (by omega))]
    rw [he]
    refine Ev.ifn (show ¬ (1 : Int) = 0 by decide) ?_
    exact Ev.step (fun k => by rw [cambiumtop_TopSized.j0]) (Ev.ifp rfl (Ev.ifp rfl (Ev.const rfl)))
end Go.Proofs.YthbljhmjppjcjaaGreatDoor.Pure
end

section
/- cambium/cambiumtop.TopSized: at every input the law's function returns true, and each argument reads afterwards as before. Conditions: none beyond the row's own. Printed by a program of this session (mp.py) over the pure statement in YthbljhmjppjcjaaGreatDoorPureTopSized. -/
namespace Go.Proofs.YthbljhmjppjcjaaGreatDoor.topSized
open Go.ChangeShapes Go.WideShapes Go.ChangeAt Go.RowKit
open Go.ChangeMaps (open_string shut_string)
set_option linter.unusedVariables false
set_option linter.unusedSimpArgs false
theorem own : ownKnob Tryz.prog.godebug = none := by kernel_rfl
theorem laidOut : laidOutB Tryz.prog = true := by kernel_rfl
def lay0 : Obj → Obj
  | .cells _ t frozen => .cells (((Pinned.numbers IntKind.u8 Pinned.utf8FirstZ : List (DataW Unit)).map (fun x => match x with | .lit (.int k v) => Value.int k v | _ => .int .u8 0)).toArray) t frozen
  | o => o
def lay1 : Obj → Obj
  | .cells _ t frozen => .cells #[.int .u8 128, .int .u8 191, .int .u8 160, .int .u8 191, .int .u8 128, .int .u8 159, .int .u8 144, .int .u8 191, .int .u8 128, .int .u8 143, .int .u8 0, .int .u8 0, .int .u8 0, .int .u8 0, .int .u8 0, .int .u8 0, .int .u8 0, .int .u8 0, .int .u8 0, .int .u8 0, .int .u8 0, .int .u8 0, .int .u8 0, .int .u8 0, .int .u8 0, .int .u8 0, .int .u8 0, .int .u8 0, .int .u8 0, .int .u8 0, .int .u8 0, .int .u8 0] t frozen
  | o => o
noncomputable def laidWorld (os : Os) : World :=
  { World.holding Tryz.prog os ⟨#[], #[], []⟩ with heap := ((World.holding Tryz.prog os ⟨#[], #[], []⟩).heap.modify 1 lay0).modify 2 lay1 }
theorem laid_met (os : Os) : laidMet Tryz.prog Rows.topSizedRow.laid ((laidWorld os).forCall (fun _ _ => 0) ⟨#[], #[.string ByteArray.empty, .int .u32 0, .int .u32 0], []⟩).memory :=
  laidMet_of_run' 8 (by kernel_rfl) (by kernel_rfl)
theorem reads (os : Os) {H : Type} (enc : TypeId × Value → H) : ∃ places, DataW.whole enc Tryz.prog ((laidWorld os).forCall (fun _ _ => 0) ⟨#[], #[.string ByteArray.empty, .int .u32 0, .int .u32 0], []⟩).memory Tryz.f3.params.toList Rows.topSizedSpec.vars false (#[.string ByteArray.empty, .int .u32 0, .int .u32 0] : Array Value).toList 8 = some ([.lit (.string []), .lit (.int .u32 0), .lit (.int .u32 0)], [], places) :=
  ⟨[], by kernel_rfl⟩
set_option maxHeartbeats 1000000 in
set_option maxRecDepth 100000 in
theorem lifted (os : Os) (started : os.Started) (H : Type) (enc : TypeId × Value → H) (F : Stop.Interp) :
    ReturnsInHanded {} Tryz.checked os 3 .any ((OpenSpec.ofChange Rows.topSizedSpec).preRow enc Tryz.prog Tryz.f3 Rows.topSizedRow.domain false Rows.topSizedRow.laid) (((OpenSpec.ofChange Rows.topSizedSpec).at F).post enc Tryz.prog Tryz.f3 false true false false) := by
  obtain ⟨places, hx⟩ := reads os enc
  refine returnsInHanded_of_row (C := Tryz.checked) (s := OpenSpec.ofChange Rows.topSizedSpec) own started (by kernel_rfl) Tryz.func3
    (witness_row_at (enc := enc) (C := Tryz.checked) false (laidWorld os) #[.string ByteArray.empty, .int .u32 0, .int .u32 0] rfl (by kernel_rfl) (by kernel_rfl) (by kernel_rfl)
      (OpenSpec.preRow_of_cond 8 hx (by kernel_rfl) (fun k hk => by cases hk) (by kernel_rfl) (laid_met os))) ?_
  intro W base args ds gs before hval0 hW hcn0_ hcnd hwz_ _ _ _
  have hsz : (DataW.weightsEach Tryz.prog (Tryz.f3.params.toList ++ Rows.topSizedSpec.plain.varTypes Tryz.prog) (ds ++ gs)).all (· ≤ reachBytes) = true := hwz_
  have hval : ∀ (j : Nat) t v, Tryz.f3.params[j]? = some t → args[j]? = some v → Value.okWide Tryz.prog W .any base t v := hval0
  have hW' := hW
  obtain ⟨p, q, hA0, hV, rfl, hfz, hnd⟩ := hW
  have hA : DataW.TrodAll enc Tryz.prog W 0 (fun _ => true) true Tryz.f3.params.toList args.toList ds p := hA0
  rw [Tryz.params3] at hA hval hsz
  obtain ⟨v0, vs0, d0, ds0, p0, q0, hargs, rfl, rfl, h0, r0⟩ := trodAll_cons hA
  obtain ⟨v1, vs1, d1, ds1, p1, q1, rfl, rfl, rfl, h1, r1⟩ := trodAll_cons r0
  obtain ⟨v2, vs2, d2, ds2, p2, q2, rfl, rfl, rfl, h2, r2⟩ := trodAll_cons r1
  obtain ⟨rfl, rfl, rfl⟩ := trodAll_nil r2
  obtain rfl : args = #[v0, v1, v2] := by cases args; simp_all
  obtain ⟨rfl, rfl⟩ := trodVars_none hV
  have k0 := h0
  have lt0 : ∀ x ∈ p0, x.block < W.heap.size := by obtain ⟨m, hm⟩ := k0; exact DataW.trod_lt m _ _ _ hm
  obtain ⟨a0, rfl, rfl, rfl, y0⟩ := open_string Tryz.underlying9 (hval 0 9 v0 rfl rfl) h0
  have w0 : a0.size ≤ 140737488351232 := by
    have z := sized_string hsz (j := 0) (t := 9) rfl rfl
    rw [Array.length_toList] at z
    exact z
  have k1 := h1
  have lt1 : ∀ x ∈ p1, x.block < W.heap.size := by obtain ⟨m, hm⟩ := k1; exact DataW.trod_lt m _ _ _ hm
  obtain ⟨a1, rfl, rfl, rfl, w1⟩ := open_int Tryz.underlying22 (hval 1 22 v1 rfl rfl) h1
  have k2 := h2
  have lt2 : ∀ x ∈ p2, x.block < W.heap.size := by obtain ⟨m, hm⟩ := k2; exact DataW.trod_lt m _ _ _ hm
  obtain ⟨a2, rfl, rfl, rfl, w2⟩ := open_int Tryz.underlying22 (hval 2 22 v2 rfl rfl) h2
  have hP := Pure.TopSized a0 a1 a2 w0 w1 w2
  obtain ⟨k, hk⟩ := hP
  refine (Z.cambiumtop_TopSized.calls k a0 a1 a2 true W  hk).mono fun e W' ⟨he, bel0⟩ => ?_
  have bel : Below W.heap.size W W' := bel0
  subst he
  exact ⟨_, rfl, _, _, _, [], _, [], hW', trodAll_mk1 (shut_bool Tryz.underlying4 _), (trodAll_cons_mk (Below.trod laidOut (by kernel_rfl) (of_decide_eq_true (by kernel_rfl)) k0 bel lt0) (trodAll_cons_mk (Below.trod laidOut (by kernel_rfl) (of_decide_eq_true (by kernel_rfl)) k1 bel lt1) (trodAll_cons_mk (Below.trod laidOut (by kernel_rfl) (of_decide_eq_true (by kernel_rfl)) k2 bel lt2) trodAll_mk0))), rfl, bel.frame _, fun h => by cases h⟩
theorem over : Rows.TopSizedSaid :=
  OpenClaim.holds_of_cond 3 Tryz.f3 rfl rfl rfl rfl rfl rfl rfl ⟨rfl, rfl, rfl, rfl, rfl⟩ rfl rfl rfl rfl rfl (by kernel_rfl) Tryz.func3 (by kernel_rfl)
    (of_decide_eq_true (by kernel_rfl)) (by unfold Func.isWrapper; first | (rw [if_pos (by decide +kernel)]; kernel_rfl) | (rw [if_neg (by decide +kernel)]; exact ⟨rfl, rfl⟩))
    (fun os started H enc _ F => by rw [OpenClaim.pre_eq_preRow]; exact lifted os started H enc F)
theorem plain (f : FuncId) (fn : Func) (hf : Tryz.pinned.checked.prog.funcNamed "cambium/cambiumtop.TopSized" = some f) (hfn : Tryz.pinned.checked.prog.funcs[f]? = some fn) :
    false = Tryz.pinned.checked.prog.looks [] ∧ ∀ (j : Nat) t, fn.params[j]? = some t → Tryz.pinned.checked.prog.wantsStandIn t = false := by
  obtain rfl : f = 3 := Option.some.inj ((show Tryz.prog.funcNamed "cambium/cambiumtop.TopSized" = some 3 by kernel_rfl).symm.trans hf) |>.symm
  obtain rfl : fn = Tryz.f3 := (Option.some.inj (Tryz.func3.symm.trans hfn)).symm
  refine ⟨by kernel_rfl, fun j t ht => ?_⟩
  rw [Tryz.params3] at ht
  have hm := Array.mem_of_getElem? ht
  simp only [List.mem_toArray, List.mem_cons, List.not_mem_nil, or_false] at hm
  rcases hm with rfl | rfl | rfl <;> exact (show Tryz.prog.wantsStandIn _ = false by kernel_rfl)
theorem card : Rows.TopSizedCardSaid :=
  Claim7.holds_tied_plain_at .later [] _ _ _ _ over (fun _ h => by cases h) (by kernel_rfl) (fun _ h => by cases h) topSized_row_tie rfl ⟨rfl, rfl⟩ (by kernel_rfl) rfl plain (by kernel_rfl)
end Go.Proofs.YthbljhmjppjcjaaGreatDoor.topSized
namespace Go.Proofs.YthbljhmjppjcjaaGreatDoor
theorem topSized_holds : Rows.TopSizedCardSaid := topSized.card
#print axioms topSized_holds
end Go.Proofs.YthbljhmjppjcjaaGreatDoor
end
