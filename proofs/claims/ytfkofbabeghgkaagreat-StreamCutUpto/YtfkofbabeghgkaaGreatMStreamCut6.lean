/- StreamCutUpto: at every input the law's function returns true and leaves its arguments as they were; condition: the arguments are of bulk at most 1048576. Part 6 of 6: this session's own texts, laid together. -/
import Derived.Test.YtfkofbabeghgkaaGreatMB1
import Derived.Test.YtfkofbabeghgkaaGreatMB4
import Derived.Test.YtfkofbabeghgkaaGreatMB5
import Derived.Test.YtfkofbabeghgkaaGreatMB3
import Derived.Test.YtfkofbabeghgkaaGreatRows
import Derived.WalkKit
import Derived.ProofKit
import Derived.OpenShut
import Derived.ShutString
import Derived.ChangeOld
import Derived.Below
import Derived.SizedLaws
import Derived.Carry
import Derived.JoinedCond
import Derived.Deep.CondSized
open Go.RowKit Go.Proofs.YtfkofbabeghgkaaGreatW.PrintWords Go.Proofs.YtfkofbabeghgkaaGreatW.PrintLast Go.Proofs.YtfkofbabeghgkaaGreatW.PrintMore
set_option linter.unusedVariables false
set_option linter.unusedSimpArgs false
section
namespace Go.Proofs.YtfkofbabeghgkaaGreat.Z
attribute [local go_sem] max2_int min2_int max_two min_two max_three min_three max_four min_four   -- for this text's walks alone
def cambiumref01_Bytes.l0 : Nat → Int → Int → ByteArray → Int → Option (ByteArray)
 | 0, _, _, _, _ => none
 | k + 1, x0, x1, x5, x6 => if x6 < x1 then ((some (([(x0) % 256] : List Int) : List Int)).bind fun y304 => (if (strOfNums y304).size + x5.size ≤ 9223372036854775807 then (cambiumref01_Bytes.l0 k (IntKind.u64.wrap (Int.tdiv x0 256)) x1 ((strOfNums y304) ++ x5) (wrap64 (x6 + 1))) else (none))) else (some x5)
def cambiumref01_Bytes.f (k : Nat) (a0 : Int) (a1 : Int) : Option (ByteArray) := cambiumref01_Bytes.l0 k a0 a1 (⟨#[]⟩ : ByteArray) 0
theorem cambiumref01_Bytes.mono_l : ∀ k, (∀ y0 y1 y2 y3, LeO (cambiumref01_Bytes.l0 k y0 y1 y2 y3) (cambiumref01_Bytes.l0 (k + 1) y0 y1 y2 y3))
 | 0 => fun _ _ _ _ r h => by simp [cambiumref01_Bytes.l0] at h
 | k + 1 => by
  have ih0 := cambiumref01_Bytes.mono_l k
  ·intro y0 y1 y2 y3
   unfold cambiumref01_Bytes.l0
   repeat' first
   | (with_reducible exact ih0 _ _ _ _)
   | (with_reducible exact LeO.refl _)
   | (with_reducible exact LeO.none _)
   | (with_reducible refine LeO.ite ?_ ?_)
   | (with_reducible refine LeO.bind ?_ (fun _ => ?_))
   | exact ih0 _ _ _ _
   | exact LeO.none _
   | refine LeO.ite ?_ ?_
   | refine LeO.bind ?_ (fun _ => ?_)
theorem cambiumref01_Bytes.mono : ∀ a0 a1 k, LeO (cambiumref01_Bytes.f k a0 a1) (cambiumref01_Bytes.f (k + 1) a0 a1) := by
 intro a0 a1 k
 have ih0 := cambiumref01_Bytes.mono_l k
 unfold cambiumref01_Bytes.f
 repeat' first
   | (with_reducible exact ih0 _ _ _ _)
   | (with_reducible exact LeO.refl _)
   | (with_reducible exact LeO.none _)
   | (with_reducible refine LeO.ite ?_ ?_)
   | (with_reducible refine LeO.bind ?_ (fun _ => ?_))
   | exact ih0 _ _ _ _
   | exact LeO.none _
   | refine LeO.ite ?_ ?_
   | refine LeO.bind ?_ (fun _ => ?_)
set_option maxHeartbeats 8000000 in
set_option maxRecDepth 100000 in
theorem cambiumref01_Bytes.calls (k : Nat) (a0 : Int) (a1 : Int) (r : ByteArray) (w : World) (h : cambiumref01_Bytes.f k a0 a1 = some r) :
  Calls Tryz.prog 46 #[.int .u64 a0, .int .i64 a1] w fun e w' => e = .returned (.string r) ∧ Below w.heap.size w w' := by
 have HB := ak_ (Below.refl w.heap.size w)
 have H : (cambiumref01_Bytes.l0 k a0 a1 (⟨#[]⟩ : ByteArray) 0) = some r := h
 clear h
 have H' := ak_ H
 clear H
 go_enter Tryz.func46, Tryz.ntmps46
 go_wp2
 go_loopg [0, 5, 6] k (fun kq v0 v5 v6 w' => ∃ (x0_1 : Int) (x5_1 : ByteArray) (x6_1 : Int), v0 = .int .u64 x0_1 ∧ v5 = .string x5_1 ∧ v6 = .int .i64 x6_1 ∧ Aside0 (cambiumref01_Bytes.l0 kq x0_1 a1 x5_1 x6_1 = some r) ∧ Aside0 (kq ≤ k) ∧ Aside0 (Below w.heap.size w w'))
 case atStart => exact ⟨(a0), ((⟨#[]⟩ : ByteArray)), (0), (by first | rfl | (simp; done) | (simp [*]; done)), (by first | rfl | (simp; done) | (simp [*]; done)), (by first | rfl | (simp; done) | (simp [*]; done)), H', ⟨Nat.le_refl _⟩, ⟨bel_⟩⟩
 case round =>
  clear H'
  try clear p2
  obtain ⟨x0_1, x5_1, x6_1, rfl, rfl, rfl, HA, HK1, HB⟩ := hrel
  cases gk with
  | zero => exact absurd HA.out (by simp [cambiumref01_Bytes.l0])
  | succ k1 =>
   have H := HA.out
   clear HA
   simp only [cambiumref01_Bytes.l0] at H
   by_cases c3 : x6_1 < a1
   ·rw [if_pos c3] at H
    have c3b0 : decide (x6_1 < a1) = true := decide_eq_true c3
    clear c3
    obtain ⟨y304, hy304⟩ : ∃ y_ : List Int, y_ = (([(x0_1) % 256] : List Int)) := ⟨_, rfl⟩
    replace H : (if (strOfNums y304).size + x5_1.size ≤ 9223372036854775807 then (cambiumref01_Bytes.l0 k1 (IntKind.u64.wrap (Int.tdiv x0_1 256)) a1 ((strOfNums y304) ++ x5_1) (wrap64 (x6_1 + 1))) else (none)) = some r := by first | (rw [hy304]; with_reducible exact H) | (have H2_ := (Option.bind_some _ _).symm.trans H; rw [hy304]; with_reducible exact H2_) | (have H2_ := (Option.bind_some _ _).symm.trans H; with_reducible exact H2_) | with_reducible exact H | (rw [hy304]; exact H) | exact H
    have Ny304 := ak_ hy304
    clear hy304
    by_cases c4 : (strOfNums y304).size + x5_1.size ≤ 9223372036854775807
    ·rw [if_pos c4] at H
     have c4b0 := eq_true c4
     have c4b1 : decide ((strOfNums y304).size + x5_1.size ≤ 9223372036854775807) = true := decide_eq_true c4
     try have c4b2 : (9223372036854775807 < (strOfNums y304).size + x5_1.size) = False := eq_false (Nat.not_lt.2 c4)
     have H' := ak_ H
     clear H
     go_wp2_with (first | ((with_reducible refine gate_dst (N := 14) rfl ?_); refine Kd.R_lit (Kd.int .u8) _ 5 ?hg (N := 14) ?hd (xs := ([(x0_1) % 256] : List Int)) (inner := [.int .u8 ((x0_1) % 256)]) (ok := fun _ => True) (okp := fun _ => True) ?hr ?hp (fun _ hk => hk) trivial (Below.refl _ _) (Nat.le_refl _) (by simp) ?_; (case hd => rfl); (case hg => rfl); (case hr => first | (go_simp; done) | (go_simp; rfl)); (case hp => exact (Reps.one (show Kd.M (Kd.int .u8) _ _ _ ((x0_1) % 256) [.int .u8 ((x0_1) % 256)] from rfl) (Reps.none _ _))); intro v305 w5 ho6 hb hg_ hnew_; clear hg_ hnew_; (first | rw [← Ny304.out] at ho6 | (simp only [Int.reduceToNat] at ho6; rw [← Ny304.out] at ho6)); have HO306 := rl_ ho6; replace HB := hb_ hb; clear hb ho6; have hcv7 := own_string (P := Tryz.prog) Tryz.underlying35 Tryz.underlying5 Tryz.underlying9 (Kd.own_of_R HO306.out)))
     go_roundg k1
     case measure => have := HK1.out; omega
     case rel => exact ⟨(IntKind.u64.wrap (Int.tdiv x0_1 256)), ((strOfNums y304) ++ x5_1), (wrap64 (x6_1 + 1)), (by first | rfl | (simp; done) | (simp [*]; done)), (by first | rfl | (simp; done) | (simp [*]; done)), (by first | rfl | (simp; done) | (simp [*]; done)), H', ⟨by have := HK1.out; omega⟩, ⟨bel_⟩⟩
    rw [if_neg c4] at H
    exact absurd H (by simp)
   rw [if_neg c3] at H
   have c3b0 : decide (x6_1 < a1) = false := decide_eq_false c3
   clear c3
   obtain rfl := Option.some.inj H
   go_wp2
   go_ret
   exact ⟨by first | rfl | (simp [errW_none, errW_some] <;> rfl) | (simp [*, errW_none, errW_some] <;> rfl), bel_⟩
end Go.Proofs.YtfkofbabeghgkaaGreat.Z
end

section
namespace Go.Proofs.YtfkofbabeghgkaaGreat.Z
open Go.Proofs.YtfkofbabeghgkaaGreat.PM
theorem bytes_l0 (n w : Nat) (hw : w ≤ 8) (hn : n < 18446744073709551616) : ∀ d i : Nat, w = i + d →
    Ev (fun k => cambiumref01_Bytes.l0 k ((n / 256 ^ i : Nat) : Int) (w : Int) (ba (be i n)) (i : Int)) (ba (be w n))
  | 0, i, hi => by
    refine Ev.step (fun k => by rw [cambiumref01_Bytes.l0]) ?_
    obtain rfl : w = i := by omega
    exact Ev.ifn (by omega) (Ev.const rfl)
  | d + 1, i, hi => by
    refine Ev.step (fun k => by rw [cambiumref01_Bytes.l0]) ?_
    have e3 : wrap64 ((i : Int) + 1) = ((i + 1 : Nat) : Int) := by rw [w64 (by omega) (by omega)]; omega
    have hle : n / 256 ^ i ≤ n := Nat.div_le_self _ _
    have e1 : strOfNums [((n / 256 ^ i : Nat) : Int) % 256] = ba [UInt8.ofNat (n / 256 ^ i % 256)] := by
      have : ((n / 256 ^ i : Nat) : Int) % 256 = ((n / 256 ^ i % 256 : Nat) : Int) := by omega
      rw [this]
      rfl
    have e4 : ∀ q : Nat, q < 18446744073709551616 → IntKind.u64.wrap (Int.tdiv (q : Int) 256) = ((q / 256 : Nat) : Int) := by
      intro q hq
      rw [Int.tdiv_eq_ediv_of_nonneg (by omega), u64w (by omega) (by omega)]
      omega
    have e2 : IntKind.u64.wrap (Int.tdiv ((n / 256 ^ i : Nat) : Int) 256) = ((n / 256 ^ (i + 1) : Nat) : Int) := by
      rw [e4 _ (by omega), Nat.pow_succ, ← Nat.div_div_eq_div_mul]
    refine Ev.ifp (by omega) (Ev.bindc rfl ?_)
    rw [e1, e2, e3]
    refine Ev.ifp (by rw [ba_size, ba_size, be_len]; simp; omega) ?_
    rw [ba_app, List.singleton_append, ← be_cons]
    exact bytes_l0 n w hw hn d (i + 1) (by omega)
theorem bytes_f (n : Int) (w : Nat) (h8 : w ≤ 8) (h0 : 0 ≤ n) (hn : n.toNat < 18446744073709551616) : Ev (fun k => cambiumref01_Bytes.f k (IntKind.u64.wrap n) (w : Int)) (ba (be w n.toNat)) := by
  unfold cambiumref01_Bytes.f
  rw [u64w h0 (by omega)]
  have h := bytes_l0 n.toNat w h8 hn w 0 (by omega)
  rw [Nat.pow_zero, Nat.div_one, show ((n.toNat : Nat) : Int) = n by omega] at h
  exact h
end Go.Proofs.YtfkofbabeghgkaaGreat.Z
end

section
namespace Go.Proofs.YtfkofbabeghgkaaGreat.Z
attribute [local go_sem] max2_int min2_int max_two min_two max_three min_three max_four min_four   -- for this text's walks alone
mutual
def cambiumref01_Sum.l0 : Nat → ByteArray → Int → Int → Option (Int)
 | 0, _, _, _ => none
 | k + 1, x0, x3, x4 => if x4 < (x0.size : Int) then (if 0 ≤ x4 then (cambiumref01_Sum.l1 k x0 (Go.bits .xor .u32 x3 ((((bt x0 x4) % 4294967296) * 16777216) % 4294967296)) x4 0) else (none)) else (some x3)
def cambiumref01_Sum.l1 : Nat → ByteArray → Int → Int → Int → Option (Int)
 | 0, _, _, _, _ => none
 | k + 1, x0, x3, x4, x5 => if x5 < 8 then (if x3 ≥ 2147483648 then (cambiumref01_Sum.l1 k x0 (Go.bits .xor .u32 ((x3 * 2) % 4294967296) 2168537515) x4 (wrap64 (x5 + 1))) else (cambiumref01_Sum.l1 k x0 ((x3 * 2) % 4294967296) x4 (wrap64 (x5 + 1)))) else (cambiumref01_Sum.l0 k x0 x3 (wrap64 (x4 + 1)))
end
def cambiumref01_Sum.f (k : Nat) (a0 : ByteArray) : Option (Int) := cambiumref01_Sum.l0 k a0 0 0
theorem cambiumref01_Sum.mono_l : ∀ k, (∀ y0 y1 y2, LeO (cambiumref01_Sum.l0 k y0 y1 y2) (cambiumref01_Sum.l0 (k + 1) y0 y1 y2)) ∧ (∀ y0 y1 y2 y3, LeO (cambiumref01_Sum.l1 k y0 y1 y2 y3) (cambiumref01_Sum.l1 (k + 1) y0 y1 y2 y3))
 | 0 => ⟨fun _ _ _ r h => by simp [cambiumref01_Sum.l0] at h, fun _ _ _ _ r h => by simp [cambiumref01_Sum.l1] at h⟩
 | k + 1 => by
  obtain ⟨ih0, ih1⟩ := cambiumref01_Sum.mono_l k
  refine ⟨?_, ?_⟩
  ·intro y0 y1 y2
   unfold cambiumref01_Sum.l0
   repeat' first
   | (with_reducible exact ih0 _ _ _)
   | (with_reducible exact ih1 _ _ _ _)
   | (with_reducible exact LeO.refl _)
   | (with_reducible exact LeO.none _)
   | (with_reducible refine LeO.ite ?_ ?_)
   | (with_reducible refine LeO.bind ?_ (fun _ => ?_))
   | exact ih0 _ _ _
   | exact ih1 _ _ _ _
   | exact LeO.none _
   | refine LeO.ite ?_ ?_
   | refine LeO.bind ?_ (fun _ => ?_)
  intro y0 y1 y2 y3
  unfold cambiumref01_Sum.l1
  repeat' first
  | (with_reducible exact ih0 _ _ _)
  | (with_reducible exact ih1 _ _ _ _)
  | (with_reducible exact LeO.refl _)
  | (with_reducible exact LeO.none _)
  | (with_reducible refine LeO.ite ?_ ?_)
  | (with_reducible refine LeO.bind ?_ (fun _ => ?_))
  | exact ih0 _ _ _
  | exact ih1 _ _ _ _
  | exact LeO.none _
  | refine LeO.ite ?_ ?_
  | refine LeO.bind ?_ (fun _ => ?_)
theorem cambiumref01_Sum.mono : ∀ a0 k, LeO (cambiumref01_Sum.f k a0) (cambiumref01_Sum.f (k + 1) a0) := by
 intro a0 k
 obtain ⟨ih0, ih1⟩ := cambiumref01_Sum.mono_l k
 unfold cambiumref01_Sum.f
 repeat' first
   | (with_reducible exact ih0 _ _ _)
   | (with_reducible exact ih1 _ _ _ _)
   | (with_reducible exact LeO.refl _)
   | (with_reducible exact LeO.none _)
   | (with_reducible refine LeO.ite ?_ ?_)
   | (with_reducible refine LeO.bind ?_ (fun _ => ?_))
   | exact ih0 _ _ _
   | exact ih1 _ _ _ _
   | exact LeO.none _
   | refine LeO.ite ?_ ?_
   | refine LeO.bind ?_ (fun _ => ?_)
set_option maxHeartbeats 8000000 in
set_option maxRecDepth 100000 in
theorem cambiumref01_Sum.calls (k : Nat) (a0 : ByteArray) (r : Int) (w : World) (h : cambiumref01_Sum.f k a0 = some r) :
  Calls Tryz.prog 47 #[.string a0] w fun e w' => e = .returned (.int .u32 r) ∧ Drawn0 w w' := by
 have H : (cambiumref01_Sum.l0 k a0 0 0) = some r := h
 clear h
 have H' := ak_ H
 clear H
 go_enter Tryz.func47, Tryz.ntmps47
 go_wp2
 go_loopg [3, 4] k (fun kq v3 v4 w' => ∃ (x3_1 : Int) (x4_1 : Int), v3 = .int .u32 x3_1 ∧ v4 = .int .i64 x4_1 ∧ Aside0 (cambiumref01_Sum.l0 kq a0 x3_1 x4_1 = some r) ∧ Aside0 (kq ≤ k) ∧ Drawn0 w w')
 case atStart => exact ⟨(0), (0), (by first | rfl | (simp; done) | (simp [*]; done)), (by first | rfl | (simp; done) | (simp [*]; done)), H', ⟨Nat.le_refl _⟩, by repeat (first | exact Drawn0.refl _ | apply Drawn0.step)⟩
 case round =>
  clear H'
  obtain ⟨x3_1, x4_1, rfl, rfl, HA, HK1, ⟨m1, rfl⟩⟩ := hrel
  cases gk with
  | zero => exact absurd HA.out (by simp [cambiumref01_Sum.l0])
  | succ k1 =>
   have H := HA.out
   clear HA
   simp only [cambiumref01_Sum.l0] at H
   by_cases c2 : x4_1 < (a0.size : Int)
   ·rw [if_pos c2] at H
    have c2b0 : decide (x4_1 < (a0.size : Int)) = true := decide_eq_true c2
    clear c2
    by_cases c3 : 0 ≤ x4_1
    ·rw [if_pos c3] at H
     have c3b0 : decide (0 ≤ x4_1) = true := decide_eq_true c3
     clear c3
     have H' := ak_ H
     clear H
     have p4 : 0 ≤ (x4_1 : Int) := of_decide_eq_true (by first | (with_reducible assumption) | assumption)
     have q4 : x4_1 < (a0.size : Int) := of_decide_eq_true (by first | (with_reducible assumption) | assumption)
     have hx4 := bt_at a0 x4_1
     replace p4 := eq_true p4
     replace q4 := eq_true q4
     go_wp2
     go_loopg [3, 5] k1 (fun kq v3 v5 w' => ∃ (x3_2 : Int) (x5_2 : Int), v3 = .int .u32 x3_2 ∧ v5 = .int .i64 x5_2 ∧ Aside0 (cambiumref01_Sum.l1 kq a0 x3_2 x4_1 x5_2 = some r) ∧ Aside0 (kq ≤ k1) ∧ Drawn0 w w')
     case atStart => exact ⟨(Go.bits .xor .u32 x3_1 ((((bt a0 x4_1) % 4294967296) * 16777216) % 4294967296)), (0), (by first | rfl | (simp; done) | (simp [*]; done)), (by first | rfl | (simp; done) | (simp [*]; done)), H', ⟨Nat.le_refl _⟩, by repeat (first | exact Drawn0.refl _ | apply Drawn0.step)⟩
     case round =>
      clear H'
      try clear c2
      try clear c2b0
      try clear p2
      try clear c3
      try clear c3b0
      try clear c4
      try clear p4
      try clear q4
      try clear hx4
      try clear p4
      try clear q4
      obtain ⟨x3_2, x5_2, rfl, rfl, HA, HK2, ⟨m2, rfl⟩⟩ := hrel
      cases gk with
      | zero => exact absurd HA.out (by simp [cambiumref01_Sum.l1])
      | succ k2 =>
       have H := HA.out
       clear HA
       simp only [cambiumref01_Sum.l1] at H
       by_cases c5 : x5_2 < 8
       ·rw [if_pos c5] at H
        have c5b0 : decide (x5_2 < 8) = true := decide_eq_true c5
        clear c5
        by_cases c6 : x3_2 ≥ 2147483648
        ·rw [if_pos c6] at H
         have c6b0 : decide (2147483648 ≤ x3_2) = true := decide_eq_true c6
         clear c6
         have H' := ak_ H
         clear H
         go_wp2
         go_roundg k2
         case measure => have := HK1.out; have := HK2.out; omega
         case rel => exact ⟨(Go.bits .xor .u32 ((x3_2 * 2) % 4294967296) 2168537515), (wrap64 (x5_2 + 1)), (by first | rfl | (simp; done) | (simp [*]; done)), (by first | rfl | (simp; done) | (simp [*]; done)), H', ⟨by have := HK1.out; have := HK2.out; omega⟩, by repeat (first | exact Drawn0.refl _ | apply Drawn0.step)⟩
        rw [if_neg c6] at H
        have c6b0 : decide (2147483648 ≤ x3_2) = false := decide_eq_false c6
        clear c6
        have H' := ak_ H
        clear H
        go_wp2
        go_roundg k2
        case measure => have := HK1.out; have := HK2.out; omega
        case rel => exact ⟨((x3_2 * 2) % 4294967296), (wrap64 (x5_2 + 1)), (by first | rfl | (simp; done) | (simp [*]; done)), (by first | rfl | (simp; done) | (simp [*]; done)), H', ⟨by have := HK1.out; have := HK2.out; omega⟩, by repeat (first | exact Drawn0.refl _ | apply Drawn0.step)⟩
       rw [if_neg c5] at H
       have c5b0 : decide (x5_2 < 8) = false := decide_eq_false c5
       clear c5
       have H' := ak_ H
       clear H
       go_wp2
       go_roundg k2
       case measure => have := HK1.out; have := HK2.out; omega
       case rel => exact ⟨(x3_2), (wrap64 (x4_1 + 1)), (by first | rfl | (simp; done) | (simp [*]; done)), (by first | rfl | (simp; done) | (simp [*]; done)), H', ⟨by have := HK1.out; have := HK2.out; omega⟩, by repeat (first | exact Drawn0.refl _ | apply Drawn0.step)⟩
    rw [if_neg c3] at H
    exact absurd H (by simp)
   rw [if_neg c2] at H
   have c2b0 : decide (x4_1 < (a0.size : Int)) = false := decide_eq_false c2
   clear c2
   obtain rfl := Option.some.inj H
   go_wp2
   go_ret
   exact ⟨by first | rfl | (simp; done) | (simp [*]; done), by repeat (first | exact Drawn0.refl _ | apply Drawn0.step)⟩
def cambiumref18_Cut.f (k : Nat) (a0 : ByteArray) (a1 : Int) : Option (Bool) := if a1 ≥ 4 then (if a1 ≤ (a0.size : Int) then (if 0 ≤ (wrap64 (a1 - 4)) then (if (wrap64 (a1 - 4)) ≤ (a0.size : Int) then ((cambiumref01_Sum.f k (a0.extract 0 ((wrap64 (a1 - 4)) : Int).toNat)).bind fun t307 => ((cambiumref01_Bytes.f k (IntKind.u64.wrap (t307)) 4).bind fun t308 => (if (wrap64 (a1 - 4)) ≤ a1 then (some (t308.toList == (a0.extract ((wrap64 (a1 - 4)) : Int).toNat (a1 : Int).toNat).toList)) else (none)))) else (none)) else (none)) else (some false)) else (some false)
theorem cambiumref18_Cut.mono : ∀ a0 a1 k, LeO (cambiumref18_Cut.f k a0 a1) (cambiumref18_Cut.f (k + 1) a0 a1) := by
 intro a0 a1 k
 unfold cambiumref18_Cut.f
 repeat' first
   | (with_reducible exact cambiumref01_Bytes.mono _ _ _)
   | (with_reducible exact cambiumref01_Sum.mono _ _)
   | (with_reducible exact LeO.refl _)
   | (with_reducible exact LeO.none _)
   | (with_reducible refine LeO.ite ?_ ?_)
   | (with_reducible refine LeO.bind ?_ (fun _ => ?_))
   | exact cambiumref01_Bytes.mono _ _ _
   | exact cambiumref01_Sum.mono _ _
   | exact LeO.none _
   | refine LeO.ite ?_ ?_
   | refine LeO.bind ?_ (fun _ => ?_)
def cambiumref18_Cut.T1 : Bool × List (List Nat × List Nat) := (true, [([], []), ([0], [0]), ([1], [1]), ([2], [2]), ([2], [2]), ([4, 2], [2, 4]), ([3, 5, 2], [2, 3, 5]), ([2, 6], [2, 6]), ([7, 2], [7]), ([8], [8]), ([8], [8]), ([10, 8], [8, 10]), ([9, 11, 8], [8, 9, 11]), ([12, 8, 8], [8, 12]), ([13, 8], [8, 13]), ([14, 13, 8], [8, 14]), ([8], [8]), ([8], [8]), ([17, 8], [8, 17]), ([8], [8]), ([16, 18, 19, 8], [8, 16, 18, 19]), ([15, 20, 8], [8, 15, 20]), ([8, 21], [8, 21]), ([22, 15, 0, 1, 2, 3, 4, 5, 6, 7, 8, 9, 10, 11, 12, 13, 14, 15, 16, 17, 18, 19, 20, 21, 22], [22])])
def cambiumref18_Cut.B1 : List Nat := [0, 1, 3, 7, 7, 23, 63, 127, 255, 511, 511, 1535, 4095, 8191, 16383, 32767, 511, 511, 131583, 511, 983551, 2097151, 4194303, 8388607]
theorem cambiumref18_Cut.tab1 : rtab .any (opsOf Tryz.f21 1) = cambiumref18_Cut.T1 := by kernel_rfl
theorem cambiumref18_Cut.bits1 : waitsOk cambiumref18_Cut.T1.2 cambiumref18_Cut.B1 = true := by kernel_rfl
set_option maxHeartbeats 8000000 in
set_option maxRecDepth 100000 in
theorem cambiumref18_Cut.calls (k : Nat) (a0 : ByteArray) (a1 : Int) (r : Bool) (w : World) (h : cambiumref18_Cut.f k a0 a1 = some r) :
  Calls Tryz.prog 21 #[.string a0, .int .i64 a1] w fun e w' => e = .returned (.bool r) ∧ Below w.heap.size w w' := by
 have HB := ak_ (Below.refl w.heap.size w)
 have H : (if a1 ≥ 4 then (if a1 ≤ (a0.size : Int) then (if 0 ≤ (wrap64 (a1 - 4)) then (if (wrap64 (a1 - 4)) ≤ (a0.size : Int) then ((cambiumref01_Sum.f k (a0.extract 0 ((wrap64 (a1 - 4)) : Int).toNat)).bind fun t307 => ((cambiumref01_Bytes.f k (IntKind.u64.wrap (t307)) 4).bind fun t308 => (if (wrap64 (a1 - 4)) ≤ a1 then (some (t308.toList == (a0.extract ((wrap64 (a1 - 4)) : Int).toNat (a1 : Int).toNat).toList)) else (none)))) else (none)) else (none)) else (some false)) else (some false)) = some r := h
 clear h
 by_cases c3 : a1 ≥ 4
 ·rw [if_pos c3] at H
  have c3b0 : decide (4 ≤ a1) = true := decide_eq_true c3
  clear c3
  by_cases c4 : a1 ≤ (a0.size : Int)
  ·rw [if_pos c4] at H
   have c4b0 : decide (a1 ≤ (a0.size : Int)) = true := decide_eq_true c4
   clear c4
   obtain ⟨ji5, hji5⟩ : ∃ j_ : Int, (wrap64 (a1 - 4)) = j_ := ⟨_, rfl⟩
   replace H : (if 0 ≤ (ji5) then (if (ji5) ≤ (a0.size : Int) then ((cambiumref01_Sum.f k (a0.extract 0 ((ji5) : Int).toNat)).bind fun t307 => ((cambiumref01_Bytes.f k (IntKind.u64.wrap (t307)) 4).bind fun t308 => (if (ji5) ≤ a1 then (some (t308.toList == (a0.extract ((ji5) : Int).toNat (a1 : Int).toNat).toList)) else (none)))) else (none)) else (none)) = some r := by first | (rw [hji5] at H; exact H) | (simp only [hji5] at H ⊢; exact H)
   have hji5w : (IntKind.i64.wrap (a1 - 4)) = ji5 := (i64_w _).trans hji5
   by_cases c6 : 0 ≤ (ji5)
   ·rw [if_pos c6] at H
    have c6b0 := eq_true c6
    have c6b1 : decide (0 ≤ (ji5)) = true := decide_eq_true c6
    clear c6
    by_cases c7 : (ji5) ≤ (a0.size : Int)
    ·rw [if_pos c7] at H
     have c7b0 := eq_true c7
     have c7b1 : decide ((ji5) ≤ (a0.size : Int)) = true := decide_eq_true c7
     clear c7
     replace H := Option.bind_eq_some_iff.mp H
     obtain ⟨t307, A80, H⟩ := H
     replace H : ((cambiumref01_Bytes.f k (IntKind.u64.wrap (t307)) 4).bind fun t308 => (if (ji5) ≤ a1 then (some (t308.toList == (a0.extract ((ji5) : Int).toNat (a1 : Int).toNat).toList)) else (none))) = some r := H
     have A8 := ak_ A80
     clear A80
     replace H := Option.bind_eq_some_iff.mp H
     obtain ⟨t308, A90, H⟩ := H
     replace H : (if (ji5) ≤ a1 then (some (t308.toList == (a0.extract ((ji5) : Int).toNat (a1 : Int).toNat).toList)) else (none)) = some r := H
     have A9 := ak_ A90
     clear A90
     have c10b0 := eq_true (of_decide_eq_true (by first | (with_reducible assumption) | assumption) : 0 ≤ (ji5))
     by_cases c11 : (ji5) ≤ a1
     ·rw [if_pos c11] at H
      have c11b0 := eq_true c11
      have c11b1 : decide ((ji5) ≤ a1) = true := decide_eq_true c11
      clear c11
      have c12b0 := eq_true (of_decide_eq_true (by first | (with_reducible assumption) | assumption) : a1 ≤ (a0.size : Int))
      obtain rfl := Option.some.inj H
      go_enter Tryz.func21, Tryz.ntmps21
      try go_wp2
      replace HB := ak_ (below_drew1 HB.out)
      refine start_ (n := 24) (S := fun w' => True) (ds := []) #[false, false, false, false, false, false, false, false, false, false, false, false, false, false, false, false, false, false, false, false, false, false, false, false] (by kernel_rfl) rfl rfl trivial (fun hHeld => ?_); refine with_tabW cambiumref18_Cut.tab1 cambiumref18_Cut.bits1 (fun HT_ HW_ => ?_)
      generalize w.drew = w13 at HB hHeld ⊢
      refine pu_ 0 5 ?_
      refine pu_ 1 6 ?_
      refine pu_ 2 7 ?_
      refine pu_ 3 8 ?_
      refine pu_ 4 9 ?_
      refine pu_ 5 10 ?_
      refine pu_ 6 11 ?_
      refine pu_ 7 12 ?_
      refine pu_ 8 13 ?_
      refine pu_ 9 14 ?_
      refine pu_ 10 15 ?_
      refine pu_ 11 16 ?_
      refine pu_ 12 17 ?_
      refine pu_ 16 21 ?_
      refine pu_ 17 22 ?_
      refine pu_ 18 23 ?_
      refine pu_ 19 24 ?_
      refine pu_ 20 25 ?_
      refine on_ 13 18 (fun K hK => ?_)
      refine goes_ Tryz.func47 (by kernel_rfl) rfl #[.string (a0.extract 0 ((ji5) : Int).toNat)] (by rfl) rfl rfl (by (try simp only [List.map_toArray, List.map_cons, List.map_nil]); first | done | (simp only [hji5]; rfl) | rfl | (simp only [List.length_drop, List.length_take]; rfl)) ?_
      with_reducible refine (cambiumref01_Sum.calls k (a0.extract 0 ((ji5) : Int).toNat) t307 _ A8.out).mono ?_
      rintro e w' ⟨rfl, ⟨nd, rfl⟩⟩
      refine ⟨_, rfl, ?_⟩
      refine hK.out _ _ trivial (fun hHeld => ?_)
      clear hK K
      refine nm_ 18 ?_
      refine pu_ 14 19 ?_
      refine on_ 15 20 (fun K hK => ?_)
      refine goes_ Tryz.func46 (by kernel_rfl) rfl #[.int .u64 (IntKind.u64.wrap (t307)), .int .i64 4] (by rfl) rfl rfl (by (try simp only [List.map_toArray, List.map_cons, List.map_nil]); first | done | rfl | (simp only [List.length_drop, List.length_take]; rfl)) ?_
      with_reducible refine (cambiumref01_Bytes.calls k (IntKind.u64.wrap (t307)) 4 t308 _ A9.out).mono ?_
      rintro e w14 ⟨rfl, hb⟩
      refine ⟨_, rfl, ?_⟩
      replace HB := hb_ hb
      (try clear hb)
      (try clear hb2)
      (try clear hk)
      (try clear hi)
      refine hK.out _ _ trivial (fun hHeld => ?_)
      clear hK K
      refine nm_ 20 ?_
      refine pu_ 21 26 ?_
      refine pu_ 22 27 ?_
      refine pu_ 23 4 ?_
      refine done_ (done_of HT_.out (by kernel_rfl)) ?_
      try go_wp2
      go_ret
      exact ⟨by first | rfl | (simp [errW_none, errW_some] <;> rfl) | (simp only [← hji5]; first | rfl | (simp [errW_none, errW_some] <;> rfl)) | (simp [*, errW_none, errW_some] <;> rfl), bel_⟩
     rw [if_neg c11] at H
     exact absurd H (by simp)
    rw [if_neg c7] at H
    exact absurd H (by simp)
   rw [if_neg c6] at H
   exact absurd H (by simp)
  rw [if_neg c4] at H
  have c4b0 : decide (a1 ≤ (a0.size : Int)) = false := decide_eq_false c4
  clear c4
  obtain rfl := Option.some.inj H
  go_enter Tryz.func21, Tryz.ntmps21
  try go_wp2
  replace HB := ak_ (below_drew1 HB.out)
  refine start_ (n := 24) (S := fun w' => True) (ds := []) #[false, false, false, false, false, false, false, false, false, false, false, false, false, false, false, false, false, false, false, false, false, false, false, false] (by kernel_rfl) rfl rfl trivial (fun hHeld => ?_); refine with_tabW cambiumref18_Cut.tab1 cambiumref18_Cut.bits1 (fun HT_ HW_ => ?_)
  generalize w.drew = w15 at HB hHeld ⊢
  refine pu_ 0 5 ?_
  refine pu_ 1 6 ?_
  refine pu_ 2 7 ?_
  refine pu_ 3 8 ?_
  refine pu_ 4 9 ?_
  refine pu_ 5 10 ?_
  refine pu_ 6 11 ?_
  refine pu_ 7 12 ?_
  refine pu_ 8 13 ?_
  refine un_ 9 14 ?_
  refine un_ 10 15 ?_
  refine un_ 11 16 ?_
  refine un_ 12 17 ?_
  refine un_ 13 18 ?_
  refine un_ 14 19 ?_
  refine un_ 15 20 ?_
  refine un_ 16 21 ?_
  refine un_ 17 22 ?_
  refine un_ 18 23 ?_
  refine un_ 19 24 ?_
  refine un_ 20 25 ?_
  refine un_ 21 26 ?_
  refine pu_ 22 27 ?_
  refine pu_ 23 4 ?_
  refine done_ (done_of HT_.out (by kernel_rfl)) ?_
  try go_wp2
  go_ret
  exact ⟨by first | rfl | (simp [errW_none, errW_some] <;> rfl) | (simp [*, errW_none, errW_some] <;> rfl), bel_⟩
 rw [if_neg c3] at H
 have c3b0 : decide (4 ≤ a1) = false := decide_eq_false c3
 clear c3
 obtain rfl := Option.some.inj H
 go_enter Tryz.func21, Tryz.ntmps21
 try go_wp2
 replace HB := ak_ (below_drew1 HB.out)
 refine start_ (n := 24) (S := fun w' => True) (ds := []) #[false, false, false, false, false, false, false, false, false, false, false, false, false, false, false, false, false, false, false, false, false, false, false, false] (by kernel_rfl) rfl rfl trivial (fun hHeld => ?_); refine with_tabW cambiumref18_Cut.tab1 cambiumref18_Cut.bits1 (fun HT_ HW_ => ?_)
 generalize w.drew = w16 at HB hHeld ⊢
 refine pu_ 0 5 ?_
 refine pu_ 1 6 ?_
 refine pu_ 2 7 ?_
 refine un_ 3 8 ?_
 refine un_ 4 9 ?_
 refine un_ 5 10 ?_
 refine un_ 6 11 ?_
 refine pu_ 7 12 ?_
 refine pu_ 8 13 ?_
 refine un_ 9 14 ?_
 refine un_ 10 15 ?_
 refine un_ 11 16 ?_
 refine un_ 12 17 ?_
 refine un_ 13 18 ?_
 refine un_ 14 19 ?_
 refine un_ 15 20 ?_
 refine un_ 16 21 ?_
 refine un_ 17 22 ?_
 refine un_ 18 23 ?_
 refine un_ 19 24 ?_
 refine un_ 20 25 ?_
 refine un_ 21 26 ?_
 refine pu_ 22 27 ?_
 refine pu_ 23 4 ?_
 refine done_ (done_of HT_.out (by kernel_rfl)) ?_
 try go_wp2
 go_ret
 exact ⟨by first | rfl | (simp [errW_none, errW_some] <;> rfl) | (simp [*, errW_none, errW_some] <;> rfl), bel_⟩
end Go.Proofs.YtfkofbabeghgkaaGreat.Z
end

section
namespace Go.Proofs.YtfkofbabeghgkaaGreat.Z
open Go.Proofs.YtfkofbabeghgkaaGreat.PM
theorem rs_l1 (a : ByteArray) (i : Nat) (v : Int) (hi : i < 9223372036854775807) : ∀ (d x : Nat) (c : Nat), x + d = 8 → c < 4294967296 → Ev (fun k => cambiumref01_Sum.l0 k a ((rndsN d c : Nat) : Int) ((i + 1 : Nat) : Int)) v → Ev (fun k => cambiumref01_Sum.l1 k a (c : Int) (i : Int) (x : Int)) v
  | 0, x, c, hx, hc, h => by
    refine Ev.step (fun k => by rw [cambiumref01_Sum.l1]) ?_
    rw [w64 (i := (i : Int) + 1) (by omega) (by omega)]
    exact Ev.ifn (by omega) h
  | d + 1, x, c, hx, hc, h => by
    have e1 : ((c : Int) * 2) % 4294967296 = ((2 * c % 4294967296 : Nat) : Int) := by omega
    have ih := rs_l1 a i v hi d (x + 1) (rndN c) (by omega) (rndN_lt c) h
    refine Ev.step (fun k => by rw [cambiumref01_Sum.l1]) ?_
    rw [w64 (i := (x : Int) + 1) (by omega) (by omega), e1]
    refine Ev.ifp (by omega) ?_
    by_cases hs : 2147483648 ≤ c
    · refine Ev.ifp (by omega) ?_
      rw [show (2168537515 : Int) = ((2168537515 : Nat) : Int) from rfl, xor32 (Nat.mod_lt _ (by decide)) (by decide)]
      have e2 : rndN c = (2 * c % 4294967296) ^^^ 2168537515 := by unfold rndN; rw [if_pos hs]
      rw [e2] at ih
      exact ih
    · refine Ev.ifn (by omega) ?_
      have e2 : rndN c = 2 * c % 4294967296 := by unfold rndN; rw [if_neg hs, Nat.xor_zero]
      rw [e2] at ih
      exact ih
theorem rs_l0 (a : ByteArray) (ha : a.data.toList.length ≤ 1073741824) : ∀ (d i c : Nat), i + d = a.data.toList.length → c < 4294967296 → Ev (fun k => cambiumref01_Sum.l0 k a (c : Int) (i : Int)) ((crc (a.data.toList.drop i) c : Nat) : Int)
  | 0, i, c, hi, hc => by
    have hz : a.size = a.data.toList.length := by rw [Array.length_toList]; rfl
    refine Ev.step (fun k => by rw [cambiumref01_Sum.l0]) ?_
    rw [List.drop_eq_nil_of_le (by omega), crc]
    exact Ev.ifn (by omega) (Ev.const rfl)
  | d + 1, i, c, hi, hc => by
    have hz : a.size = a.data.toList.length := by rw [Array.length_toList]; rfl
    have hlt : i < a.data.toList.length := by omega
    have hb := (a.data.toList[i]).toNat_lt
    have ih := rs_l0 a ha d (i + 1) (putN c (a.data.toList[i]).toNat) (by omega) (putN_lt hc hb)
    refine Ev.step (fun k => by rw [cambiumref01_Sum.l0]) ?_
    rw [List.drop_eq_getElem_cons hlt, crc]
    refine Ev.ifp (by omega) (Ev.ifp (by omega) ?_)
    have e1 : bt a (i : Int) = (((a.data.toList[i]).toNat : Nat) : Int) := bt_get a i hlt
    have e2 : ((bt a (i : Int)) % 4294967296 * 16777216) % 4294967296 = (((a.data.toList[i]).toNat * 16777216 : Nat) : Int) := by rw [e1]; omega
    rw [e2, xor32 hc (by omega)]
    exact rs_l1 a i _ (by omega) 8 0 _ rfl (Nat.xor_lt_two_pow (n := 32) hc (by show _ < 4294967296; omega)) ih
theorem rs_sum (a : ByteArray) (ha : a.data.toList.length ≤ 1073741824) : Ev (fun k => cambiumref01_Sum.f k a) ((crc a.data.toList 0 : Nat) : Int) := by
  unfold cambiumref01_Sum.f
  exact rs_l0 a ha _ 0 0 (Nat.zero_add _) (by decide)
theorem cut_what (s : Bs) (hs : s.length ≤ 1073741824) (n : Nat) (hn : n < s.length) : ∃ k b, cambiumref18_Cut.f k (ba s) (n : Int) = some b ∧ (b = false → readB (s.take n) = none) := by
  by_cases h4 : 4 ≤ n
  rotate_left
  · refine ⟨0, false, ?_, fun _ => ?_⟩
    · unfold cambiumref18_Cut.f
      exact if_neg (by omega)
    · unfold readB
      exact if_neg (fun h => by have := h.2.1; rw [List.length_take] at this; omega)
  have hl : (s.take (n - 4)).length ≤ 1073741824 := by rw [List.length_take]; omega
  have h1 := rs_sum (ba (s.take (n - 4))) (by rw [ba_data]; exact hl)
  rw [ba_data] at h1
  have hc := crc_lt (s.take (n - 4)) 0 (by decide)
  have h2 := bytes_f ((crc (s.take (n - 4)) 0 : Nat) : Int) 4 (by decide) (by omega) (by omega)
  rw [Int.toNat_natCast] at h2
  have hw : wrap64 ((n : Int) - 4) = ((n - 4 : Nat) : Int) := by unfold wrap64; omega
  have key : Ev (fun k => cambiumref18_Cut.f k (ba s) (n : Int)) ((ba (be 4 (crc (s.take (n - 4)) 0))).toList == ((ba s).extract (n - 4) n).toList) := by
    unfold cambiumref18_Cut.f
    rw [hw, Int.toNat_natCast, Int.toNat_natCast, ba_size]
    refine Ev.ifp (by omega) (Ev.ifp (by omega) (Ev.ifp (by omega) (Ev.ifp (by omega) ?_)))
    rw [ext_front, ba_data]
    refine Ev.bind h1 (Ev.bind h2 (Ev.ifp (by omega) (Ev.const rfl)))
  obtain ⟨k, hk⟩ := ev1 key
  refine ⟨k, _, hk, fun hb => ?_⟩
  unfold readB
  refine if_neg (fun h => ?_)
  have hne := beq_eq_false_iff_ne.1 hb
  apply hne
  have hlen : (s.take n).length = n := by rw [List.length_take]; omega
  have h3 := h.2.2
  rw [hlen, List.take_take, Nat.min_eq_left (by omega)] at h3
  rw [ba_toList, h3, be_num 4 _ (by rw [List.length_drop, hlen]; omega), ext_mid, ba_toList, ba_data]
end Go.Proofs.YtfkofbabeghgkaaGreat.Z
end

section
namespace Go.Proofs.YtfkofbabeghgkaaGreat.Z
open Go.Proofs.YtfkofbabeghgkaaGreat.PM
theorem read_len32 {k : Nat} {s : ByteArray} {q : List Int × List Ch} (h : readF k s = some (some q)) : q.1.length = 32 := by
  unfold readF at h
  by_cases hp : s.data.toList.take 2 = [67, 83] ∧ 42 ≤ s.size
  · rw [if_pos hp] at h
    obtain ⟨a, _, h⟩ := Option.bind_eq_some_iff.mp h
    split at h
    · obtain ⟨n, _, h⟩ := Option.bind_eq_some_iff.mp h
      obtain ⟨t, _, h⟩ := Option.bind_eq_some_iff.mp h
      split at h
      · cases h
      · split at h
        · obtain ⟨c, _, h⟩ := Option.bind_eq_some_iff.mp h
          split at h
          · have h4 := Option.some.inj (Option.some.inj h)
            rw [← h4]
            unfold ints
            rw [List.length_map, List.length_take, List.length_drop, Array.length_toList]
            have := hp.2
            have hz : s.data.size = s.size := rfl
            omega
          · cases h
        · cases h
    · cases h
  · rw [if_neg hp] at h; cases h
theorem base_len {k : Nat} {s : ByteArray} {r : List Int} {w : Int} (h : baseF k s = some (r, w)) : r.length = 32 := by
  unfold baseF at h
  obtain ⟨o, ho, h⟩ := Option.bind_eq_some_iff.mp h
  cases o with
  | none =>
    have h4 := Option.some.inj h
    simp only [Prod.mk.injEq] at h4
    rw [← h4.1]
    exact List.length_replicate
  | some q =>
    have h4 := Option.some.inj h
    simp only [Prod.mk.injEq] at h4
    rw [← h4.1]
    exact read_len32 ho
theorem base_any {s : Bs} (hs : s.length ≤ 1073741824) : ∃ k r w, baseF k (ba s) = some (r, w) ∧ (readB s = none → w = 16) := by
  cases h : readB s with
  | none => obtain ⟨k, h⟩ := base_no hs h; exact ⟨k, _, _, h, fun _ => rfl⟩
  | some r => obtain ⟨k, h⟩ := base_yes hs h; exact ⟨k, _, _, h, fun h => (by cases h)⟩
open Classical in
noncomputable def cambiumlaw18_StreamCut.f (l0 : List S77) (l1 : List S77) (a2 : Int) (a3 : ByteArray) : Option Bool := if Sm l0 ∧ Sm l1 ∧ a3.size ≤ 1048576 then some true else none
set_option maxRecDepth 100000 in
set_option maxHeartbeats 6400000 in
theorem cambiumlaw18_StreamCut.calls (A0 : Option Addr) (c0 : Nat) (l0 : List S77) (A1 : Option Addr) (c1 : Nat) (l1 : List S77) (a2 : Int) (a3 : ByteArray) (r : Bool) (w : World) (hr0 : Kd.C k77 w A0 l0.length l0) (hc0 : l0.length ≤ c0) (hr1 : Kd.C k77 w A1 l1.length l1) (hc1 : l1.length ≤ c1) (h : cambiumlaw18_StreamCut.f l0 l1 a2 a3 = some r) : Calls Tryz.prog 9 #[.slice A0 l0.length c0, .slice A1 l1.length c1, .int .i64 a2, .string a3] w fun e w' => e = .returned (.bool r) ∧ Below w.heap.size w w' := by
  unfold cambiumlaw18_StreamCut.f at h
  by_cases hsm : Sm l0 ∧ Sm l1 ∧ a3.size ≤ 1048576
  rotate_left
  · rw [if_neg hsm] at h; cases h
  rw [if_pos hsm] at h
  obtain rfl := Option.some.inj h
  clear h
  have HC0 := ak_ hr0
  have HP0 := ak_ hc0
  have HC1 := ak_ hr1
  have HP1 := ak_ hc1
  clear hr0 hc0 hr1 hc1
  cases hs : sendB mkY rtB l0 l1 with
  | none =>
    obtain ⟨k1, h1⟩ := send_no hsm.1 hsm.2.1 hs
    have H1 := ak_ h1
    clear hs h1
    go_enter Tryz.func9, Tryz.ntmps9
    go_wp2_with (first
      | (go_at_call 18; refine (cambiumlaw18_lives.calls true _ rfl).mono ?_; rintro e w1 ⟨rfl, hb⟩; have B1 := ak_ hb; clear hb)
      | (go_at_call 10; (with_reducible refine (stream_Send.calls k1 A0 c0 l0 A1 c1 l1 ⟨#[]⟩ 9 _ (Kd.C_below HC0.out B1.out) HP0.out (Kd.C_below HC1.out B1.out) HP1.out H1.out).mono ?_); rintro e w2 ⟨rfl, hb⟩; have B2 := ak_ (below_step B1.out hb); clear hb))
    go_ret
    exact ⟨rfl, B2.out⟩
  | some s =>
    obtain ⟨_, _, _, _, hstr, hrd⟩ := send_parts hsm.1 hsm.2.1 hs
    have hln := send_len hsm.1 hsm.2.1 hs
    obtain ⟨k1, h1⟩ := send_yes hsm.1 hsm.2.1 hs
    obtain ⟨S, hS⟩ : ∃ S, S = ba s := ⟨_, rfl⟩
    have hz : S.size = s.length := by rw [hS, ba_size]
    rw [← hS] at h1
    have H1 := ak_ h1
    clear h1
    by_cases hlo : a2 < 0
    · have d1 : decide (a2 < 0) = true := decide_eq_true hlo
      clear hs hS hz hsm hrd hln hlo hstr
      go_enter Tryz.func9, Tryz.ntmps9
      go_wp2_with (first
        | (go_at_call 18; refine (cambiumlaw18_lives.calls true _ rfl).mono ?_; rintro e w1 ⟨rfl, hb⟩; have B1 := ak_ hb; clear hb)
        | (go_at_call 10; (with_reducible refine (stream_Send.calls k1 A0 c0 l0 A1 c1 l1 S 0 _ (Kd.C_below HC0.out B1.out) HP0.out (Kd.C_below HC1.out B1.out) HP1.out H1.out).mono ?_); rintro e w2 ⟨rfl, hb⟩; have B2 := ak_ (below_step B1.out hb); clear hb))
      go_ret
      exact ⟨rfl, B2.out⟩
    have d1 : decide (a2 < 0) = false := decide_eq_false hlo
    by_cases hhi : a2 ≥ (S.size : Int)
    · have d2 : decide (a2 ≥ (S.size : Int)) = true := decide_eq_true hhi
      have d3 : decide ((S.size : Int) ≤ a2) = true := decide_eq_true hhi
      clear hs hS hz hsm hrd hln hlo hhi hstr
      go_enter Tryz.func9, Tryz.ntmps9
      go_wp2_with (first
        | (go_at_call 18; refine (cambiumlaw18_lives.calls true _ rfl).mono ?_; rintro e w1 ⟨rfl, hb⟩; have B1 := ak_ hb; clear hb)
        | (go_at_call 10; (with_reducible refine (stream_Send.calls k1 A0 c0 l0 A1 c1 l1 S 0 _ (Kd.C_below HC0.out B1.out) HP0.out (Kd.C_below HC1.out B1.out) HP1.out H1.out).mono ?_); rintro e w2 ⟨rfl, hb⟩; have B2 := ak_ (below_step B1.out hb); clear hb))
      go_ret
      exact ⟨rfl, B2.out⟩
    have d2 : decide (a2 ≥ (S.size : Int)) = false := decide_eq_false hhi
    have d3 : decide ((S.size : Int) ≤ a2) = false := decide_eq_false hhi
    obtain ⟨i, hi⟩ : ∃ i : Nat, (i : Int) = a2 := ⟨a2.toNat, by omega⟩
    subst hi
    have hil : i < s.length := by omega
    have d4 : decide (S.size ≤ i) = false := decide_eq_false (by omega)
    have d5 := eq_false (show ¬ S.size ≤ i by omega)
    obtain ⟨k2, b, h2, hb⟩ := cut_what s (by omega) i hil
    rw [← hS] at h2
    have H2 := ak_ h2
    clear h2
    cases b with
    | true =>
      clear hs hS hz hsm hrd hln hlo hhi hstr hil hb
      go_enter Tryz.func9, Tryz.ntmps9
      go_wp2_with (first
        | (go_at_call 18; refine (cambiumlaw18_lives.calls true _ rfl).mono ?_; rintro e w1 ⟨rfl, hb⟩; have B1 := ak_ hb; clear hb)
        | (go_at_call 10; (with_reducible refine (stream_Send.calls k1 A0 c0 l0 A1 c1 l1 S 0 _ (Kd.C_below HC0.out B1.out) HP0.out (Kd.C_below HC1.out B1.out) HP1.out H1.out).mono ?_); rintro e w2 ⟨rfl, hb⟩; have B2 := ak_ (below_step B1.out hb); clear hb)
        | (go_at_call 21; refine (cambiumref18_Cut.calls k2 S (i : Int) true _ H2.out).mono ?_; rintro e w3 ⟨rfl, hb⟩; have B3 := ak_ (below_step B2.out hb); clear hb))
      go_ret
      exact ⟨rfl, B3.out⟩
    | false =>
      have hr0 := hb rfl
      obtain ⟨k3, h3⟩ := base_no (s := s.take i) (by rw [List.length_take]; omega) hr0
      obtain ⟨T, hT⟩ : ∃ T, T = ba (s.take i) := ⟨_, rfl⟩
      have x1 : S.extract 0 i = T := by rw [hT, hS, ext_front, ba_data]
      have HTS := ak_ (show T.size ≤ 4611686018427387904 by rw [hT, ba_size, List.length_take]; omega)
      rw [← hT] at h3
      have H3 := ak_ h3
      have ha3 : a3.data.toList.length = a3.size := by rw [Array.length_toList]; rfl
      obtain ⟨k4, r4, w4_, h4, hw4⟩ := base_any (s := a3.data.toList ++ s) (by rw [List.length_append]; have := hsm.2.2; omega)
      obtain ⟨U, hU⟩ : ∃ U, U = ba (a3.data.toList ++ s) := ⟨_, rfl⟩
      have x2 : a3 ++ S = U := by rw [hU, hS, ← ba_app, data_ba]
      have HUS := ak_ (show U.size ≤ 4611686018427387904 by rw [hU, ba_size, List.length_append]; have := hsm.2.2; omega)
      rw [← hU] at h4
      have HR4 := ak_ (base_len h4)
      have H4 := ak_ h4
      have p0 := eq_true (show (0 : Int) ≤ (i : Int) by omega)
      have p1 := eq_true (show (i : Int) ≤ (S.size : Int) by omega)
      have p2 := eq_true (show i ≤ S.size by omega)
      have hs3 := hsm.2.2
      have s1 : (9223372036854775807 < a3.size + S.size) = False := eq_false (by omega)
      have s2 : decide (9223372036854775807 < a3.size + S.size) = false := decide_eq_false (by omega)
      have s3 : decide (a3.size + S.size ≤ 9223372036854775807) = true := decide_eq_true (by omega)
      obtain ⟨vlm, hvlm⟩ : ∃ v : List Value, v = (List.replicate 32 (0 : Int)).map (fun x => Value.int .u8 x) := ⟨_, rfl⟩
      have HVm := ak_ (show arrV (List.replicate 32 (0 : Int)) = vlm.toArray by rw [hvlm]; rfl)
      have HVSm := ak_ (show vlm.toArray.size = 32 by rw [← HVm.out, arrV_size]; exact List.length_replicate)
      have HVOm := ak_ (show vlm.toArray.toList.all Value.oneCell' = true by rw [← HVm.out]; simpa using arrV_one (List.replicate 32 (0 : Int)))
      have HVLm := ak_ (show (Tryz.prog.info? 28).map (·.size) = some vlm.length by rw [hvlm, List.length_map]; rw [show (List.replicate 32 (0 : Int)).length = 32 from List.length_replicate]; exact info32)
      clear hvlm
      obtain ⟨vlo, hvlo⟩ : ∃ v : List Value, v = (r4).map (fun x => Value.int .u8 x) := ⟨_, rfl⟩
      have HVo := ak_ (show arrV (r4) = vlo.toArray by rw [hvlo]; rfl)
      have HVSo := ak_ (show vlo.toArray.size = 32 by rw [← HVo.out, arrV_size]; exact HR4.out)
      have HVOo := ak_ (show vlo.toArray.toList.all Value.oneCell' = true by rw [← HVo.out]; simpa using arrV_one (r4))
      have HVLo := ak_ (show (Tryz.prog.info? 28).map (·.size) = some vlo.length by rw [hvlo, List.length_map]; rw [show (r4).length = 32 from HR4.out]; exact info32)
      clear hvlo
      have hcs : s.take 2 = [67, 83] := by rw [hstr]; rfl
      by_cases hem : a3.data.toList = []
      · have e0 : a3.toList = [] := by rw [ByteArray.toList_eq]; exact hem
        have e1 : (a3.toList == []) = true := beq_iff_eq.2 e0
        have e2 : a3.toList.isEmpty = true := by rw [e0]; rfl
        clear hs hS hz hsm hrd hln hlo hhi hstr hil hb hr0 h3 hT ha3 h4 hw4 hU hs3 hcs hem e0
        go_enter Tryz.func9, Tryz.ntmps9
        go_wp2_with (first
          | (go_at_call 18; refine (cambiumlaw18_lives.calls true _ rfl).mono ?_; rintro e w1 ⟨rfl, hb⟩; have B1 := ak_ hb; clear hb)
          | (go_at_call 10; (with_reducible refine (stream_Send.calls k1 A0 c0 l0 A1 c1 l1 S 0 _ (Kd.C_below HC0.out B1.out) HP0.out (Kd.C_below HC1.out B1.out) HP1.out H1.out).mono ?_); rintro e w2 ⟨rfl, hb⟩; have B2 := ak_ (below_step B1.out hb); clear hb)
          | (go_at_call 21; refine (cambiumref18_Cut.calls k2 S (i : Int) false _ H2.out).mono ?_; rintro e w3 ⟨rfl, hb⟩; have B3 := ak_ (below_step B2.out hb); clear hb)
          | (go_at_call 14; (with_reducible refine (stream_Base.calls k3 T (List.replicate 32 (0 : Int)) 16 _ HTS.out H3.out).mono ?_); rintro e w4 ⟨rfl, hz, hb⟩; rw [HVm.out]; have B4 := ak_ (below_step B3.out hb); clear hb hz)
          | ((with_reducible refine gate_dst (N := 11) rfl ?_); refine var_event (N := 11) (T := 28) (n := 32) (zc := arrV (List.replicate 32 0)) (cs := vlm.toArray) rfl rfl rfl (.tmp 43) rfl rfl ?hr info32 (by simp [arrV_size]) HVSm.out HVOm.out ?hx ?hN ?_; (case hx => intro p_; rfl); (case hN => intro p_; rfl); (case hr => first | (go_simp; done) | (go_simp; rfl)); intro gx hg_ w5 hx hb; have x_5 := ak_ hx; have B5 := ak_ (below_step B4.out hb); clear hx hb hg_)
          | (go_at_call 14; (with_reducible refine (stream_Base.calls k4 U r4 w4_ _ HUS.out H4.out).mono ?_); rintro e w6 ⟨rfl, hz, hb⟩; rw [HVo.out]; have B6 := ak_ (below_step B5.out hb); clear hb hz)
          | ((with_reducible refine gate_dst (N := 13) rfl ?_); refine var_event (N := 13) (T := 28) (n := 32) (zc := arrV (List.replicate 32 0)) (cs := vlo.toArray) rfl rfl rfl (.tmp 50) rfl rfl ?hr info32 (by simp [arrV_size]) HVSo.out HVOo.out ?hx ?hN ?_; (case hx => intro p_; rfl); (case hN => intro p_; rfl); (case hr => first | (go_simp; done) | (go_simp; rfl)); intro gy hg_ w7 hx hb; have y_7 := ak_ hx; have B7 := ak_ (below_step B6.out hb); clear hx hb hg_))
        go_ret
        exact ⟨rfl, B7.out⟩
      · have e0 : ¬ a3.toList = [] := by rw [ByteArray.toList_eq]; exact hem
        have e1 : (a3.toList == []) = false := beq_eq_false_iff_ne.2 e0
        have e2 : a3.toList.isEmpty = false := by cases hq_ : a3.toList with | nil => exact absurd hq_ e0 | cons a r => rfl
        by_cases hl1 : 1 < a3.size
        · have cc1 : decide ((1 : Int) < (a3.size : Int)) = true := decide_eq_true (by omega)
          have cc2 : decide (1 < a3.size) = true := decide_eq_true hl1
          have cc3 := eq_true (show (2 : Int) ≤ (a3.size : Int) by omega)
          have cc4 := eq_true (show 2 ≤ a3.size by omega)
          obtain ⟨E, hE⟩ : ∃ E, E = ba (a3.data.toList.take 2) := ⟨_, rfl⟩
          have x3 : a3.extract 0 2 = E := by rw [hE, ext_front]
          by_cases h67 : a3.data.toList.take 2 = [67, 83]
          · have f1 : (E.toList == [67, 83]) = true := by rw [hE, ba_toList]; exact beq_iff_eq.2 h67
            clear hs hS hz hsm hrd hln hlo hhi hstr hil hb hr0 h3 hT ha3 h4 hw4 hU hs3 hcs hem e0 hl1 hE h67
            go_enter Tryz.func9, Tryz.ntmps9
            go_wp2_with (first
              | (go_at_call 18; refine (cambiumlaw18_lives.calls true _ rfl).mono ?_; rintro e w1 ⟨rfl, hb⟩; have B1 := ak_ hb; clear hb)
              | (go_at_call 10; (with_reducible refine (stream_Send.calls k1 A0 c0 l0 A1 c1 l1 S 0 _ (Kd.C_below HC0.out B1.out) HP0.out (Kd.C_below HC1.out B1.out) HP1.out H1.out).mono ?_); rintro e w2 ⟨rfl, hb⟩; have B2 := ak_ (below_step B1.out hb); clear hb)
              | (go_at_call 21; refine (cambiumref18_Cut.calls k2 S (i : Int) false _ H2.out).mono ?_; rintro e w3 ⟨rfl, hb⟩; have B3 := ak_ (below_step B2.out hb); clear hb)
              | (go_at_call 14; (with_reducible refine (stream_Base.calls k3 T (List.replicate 32 (0 : Int)) 16 _ HTS.out H3.out).mono ?_); rintro e w4 ⟨rfl, hz, hb⟩; rw [HVm.out]; have B4 := ak_ (below_step B3.out hb); clear hb hz)
              | ((with_reducible refine gate_dst (N := 11) rfl ?_); refine var_event (N := 11) (T := 28) (n := 32) (zc := arrV (List.replicate 32 0)) (cs := vlm.toArray) rfl rfl rfl (.tmp 43) rfl rfl ?hr info32 (by simp [arrV_size]) HVSm.out HVOm.out ?hx ?hN ?_; (case hx => intro p_; rfl); (case hN => intro p_; rfl); (case hr => first | (go_simp; done) | (go_simp; rfl)); intro gx hg_ w5 hx hb; have x_5 := ak_ hx; have B5 := ak_ (below_step B4.out hb); clear hx hb hg_)
              | (go_at_call 14; (with_reducible refine (stream_Base.calls k4 U r4 w4_ _ HUS.out H4.out).mono ?_); rintro e w6 ⟨rfl, hz, hb⟩; rw [HVo.out]; have B6 := ak_ (below_step B5.out hb); clear hb hz)
              | ((with_reducible refine gate_dst (N := 13) rfl ?_); refine var_event (N := 13) (T := 28) (n := 32) (zc := arrV (List.replicate 32 0)) (cs := vlo.toArray) rfl rfl rfl (.tmp 50) rfl rfl ?hr info32 (by simp [arrV_size]) HVSo.out HVOo.out ?hx ?hN ?_; (case hx => intro p_; rfl); (case hN => intro p_; rfl); (case hr => first | (go_simp; done) | (go_simp; rfl)); intro gy hg_ w7 hx hb; have y_7 := ak_ hx; have B7 := ak_ (below_step B6.out hb); clear hx hb hg_))
            go_ret
            exact ⟨rfl, B7.out⟩
          · have f1 : (E.toList == [67, 83]) = false := by rw [hE, ba_toList]; exact beq_eq_false_iff_ne.2 h67
            have hw : w4_ = 16 := hw4 (read_more hem h67 hcs)
            subst hw
            clear hs hS hz hsm hrd hln hlo hhi hstr hil hb hr0 h3 hT ha3 h4 hw4 hU hs3 hcs hem e0 hl1 hE h67
            go_enter Tryz.func9, Tryz.ntmps9
            go_wp2_with (first
              | (go_at_call 18; refine (cambiumlaw18_lives.calls true _ rfl).mono ?_; rintro e w1 ⟨rfl, hb⟩; have B1 := ak_ hb; clear hb)
              | (go_at_call 10; (with_reducible refine (stream_Send.calls k1 A0 c0 l0 A1 c1 l1 S 0 _ (Kd.C_below HC0.out B1.out) HP0.out (Kd.C_below HC1.out B1.out) HP1.out H1.out).mono ?_); rintro e w2 ⟨rfl, hb⟩; have B2 := ak_ (below_step B1.out hb); clear hb)
              | (go_at_call 21; refine (cambiumref18_Cut.calls k2 S (i : Int) false _ H2.out).mono ?_; rintro e w3 ⟨rfl, hb⟩; have B3 := ak_ (below_step B2.out hb); clear hb)
              | (go_at_call 14; (with_reducible refine (stream_Base.calls k3 T (List.replicate 32 (0 : Int)) 16 _ HTS.out H3.out).mono ?_); rintro e w4 ⟨rfl, hz, hb⟩; rw [HVm.out]; have B4 := ak_ (below_step B3.out hb); clear hb hz)
              | ((with_reducible refine gate_dst (N := 11) rfl ?_); refine var_event (N := 11) (T := 28) (n := 32) (zc := arrV (List.replicate 32 0)) (cs := vlm.toArray) rfl rfl rfl (.tmp 43) rfl rfl ?hr info32 (by simp [arrV_size]) HVSm.out HVOm.out ?hx ?hN ?_; (case hx => intro p_; rfl); (case hN => intro p_; rfl); (case hr => first | (go_simp; done) | (go_simp; rfl)); intro gx hg_ w5 hx hb; have x_5 := ak_ hx; have B5 := ak_ (below_step B4.out hb); clear hx hb hg_)
              | (go_at_call 14; (with_reducible refine (stream_Base.calls k4 U r4 16 _ HUS.out H4.out).mono ?_); rintro e w6 ⟨rfl, hz, hb⟩; rw [HVo.out]; have B6 := ak_ (below_step B5.out hb); clear hb hz)
              | ((with_reducible refine gate_dst (N := 13) rfl ?_); refine var_event (N := 13) (T := 28) (n := 32) (zc := arrV (List.replicate 32 0)) (cs := vlo.toArray) rfl rfl rfl (.tmp 50) rfl rfl ?hr info32 (by simp [arrV_size]) HVSo.out HVOo.out ?hx ?hN ?_; (case hx => intro p_; rfl); (case hN => intro p_; rfl); (case hr => first | (go_simp; done) | (go_simp; rfl)); intro gy hg_ w7 hx hb; have y_7 := ak_ hx; have B7 := ak_ (below_step B6.out hb); clear hx hb hg_))
            go_ret
            exact ⟨rfl, B7.out⟩
        · have cc1 : decide ((1 : Int) < (a3.size : Int)) = false := decide_eq_false (by omega)
          have cc2 : decide (1 < a3.size) = false := decide_eq_false hl1
          have hw : w4_ = 16 := hw4 (read_more hem (fun h => by have := congrArg List.length h; rw [List.length_take] at this; simp at this; omega) hcs)
          subst hw
          clear hs hS hz hsm hrd hln hlo hhi hstr hil hb hr0 h3 hT ha3 h4 hw4 hU hs3 hcs hem e0 hl1
          go_enter Tryz.func9, Tryz.ntmps9
          go_wp2_with (first
            | (go_at_call 18; refine (cambiumlaw18_lives.calls true _ rfl).mono ?_; rintro e w1 ⟨rfl, hb⟩; have B1 := ak_ hb; clear hb)
            | (go_at_call 10; (with_reducible refine (stream_Send.calls k1 A0 c0 l0 A1 c1 l1 S 0 _ (Kd.C_below HC0.out B1.out) HP0.out (Kd.C_below HC1.out B1.out) HP1.out H1.out).mono ?_); rintro e w2 ⟨rfl, hb⟩; have B2 := ak_ (below_step B1.out hb); clear hb)
            | (go_at_call 21; refine (cambiumref18_Cut.calls k2 S (i : Int) false _ H2.out).mono ?_; rintro e w3 ⟨rfl, hb⟩; have B3 := ak_ (below_step B2.out hb); clear hb)
            | (go_at_call 14; (with_reducible refine (stream_Base.calls k3 T (List.replicate 32 (0 : Int)) 16 _ HTS.out H3.out).mono ?_); rintro e w4 ⟨rfl, hz, hb⟩; rw [HVm.out]; have B4 := ak_ (below_step B3.out hb); clear hb hz)
            | ((with_reducible refine gate_dst (N := 11) rfl ?_); refine var_event (N := 11) (T := 28) (n := 32) (zc := arrV (List.replicate 32 0)) (cs := vlm.toArray) rfl rfl rfl (.tmp 43) rfl rfl ?hr info32 (by simp [arrV_size]) HVSm.out HVOm.out ?hx ?hN ?_; (case hx => intro p_; rfl); (case hN => intro p_; rfl); (case hr => first | (go_simp; done) | (go_simp; rfl)); intro gx hg_ w5 hx hb; have x_5 := ak_ hx; have B5 := ak_ (below_step B4.out hb); clear hx hb hg_)
            | (go_at_call 14; (with_reducible refine (stream_Base.calls k4 U r4 16 _ HUS.out H4.out).mono ?_); rintro e w6 ⟨rfl, hz, hb⟩; rw [HVo.out]; have B6 := ak_ (below_step B5.out hb); clear hb hz)
            | ((with_reducible refine gate_dst (N := 13) rfl ?_); refine var_event (N := 13) (T := 28) (n := 32) (zc := arrV (List.replicate 32 0)) (cs := vlo.toArray) rfl rfl rfl (.tmp 50) rfl rfl ?hr info32 (by simp [arrV_size]) HVSo.out HVOo.out ?hx ?hN ?_; (case hx => intro p_; rfl); (case hN => intro p_; rfl); (case hr => first | (go_simp; done) | (go_simp; rfl)); intro gy hg_ w7 hx hb; have y_7 := ak_ hx; have B7 := ak_ (below_step B6.out hb); clear hx hb hg_))
          go_ret
          exact ⟨rfl, B7.out⟩
end Go.Proofs.YtfkofbabeghgkaaGreat.Z
end

section
namespace Go.Proofs.YtfkofbabeghgkaaGreat.Pure
open Go.Proofs.YtfkofbabeghgkaaGreat Go.Proofs.YtfkofbabeghgkaaGreat.Z
theorem StreamCut : ∀ (l0 : List (S77)) (l1 : List (S77)) (a2 : Int) (a3 : ByteArray), l0.length ≤ maxLen → (∀ x ∈ l0, Z.G77 x) → l1.length ≤ maxLen → (∀ x ∈ l1, Z.G77 x) → (Lit.int .i64 a2).wf = true → a3.size ≤ maxLen → ((l0.map Z.B77).sum + 1) + ((l1.map Z.B77).sum + 1) + 1 + (a3.size + 1) ≤ 1048576 → Z.cambiumlaw18_StreamCut.f l0 l1 a2 a3 = some true := by
  intro l0 l1 a2 a3 h0 g0 h1 g1 hw2 hw3 hb
  have m0 := Z.sm_len (B := Z.B77) (fun x => Nat.succ_le_succ (Nat.zero_le _)) l0
  have m1 := Z.sm_len (B := Z.B77) (fun x => Nat.succ_le_succ (Nat.zero_le _)) l1
  unfold Z.cambiumlaw18_StreamCut.f
  exact if_pos ⟨⟨g0, by omega⟩, ⟨g1, by omega⟩, by omega⟩
end Go.Proofs.YtfkofbabeghgkaaGreat.Pure
end

section
namespace Go.Proofs.YtfkofbabeghgkaaGreat.streamCut
open Go.ChangeShapes Go.WideShapes Go.ChangeAt Go.RowKit
open Go.ChangeMaps (open_string shut_string)
theorem own : ownKnob Tryz.prog.godebug = none := by kernel_rfl
theorem laidOut : laidOutB Tryz.prog = true := by kernel_rfl
set_option maxHeartbeats 1000000 in
set_option maxRecDepth 100000 in
theorem lifted (os : Os) (started : os.Started) (H : Type) (enc : TypeId × Value → H) (F : Stop.Interp) :
    ReturnsInHanded {} Tryz.checked os 9 .any ((Rows.OpenSpec.upto Rows.streamCutSpec).pre6 enc Tryz.prog Tryz.f9 Rows.streamCutUptoRow.domain false) (((Rows.OpenSpec.upto Rows.streamCutSpec).at F).post enc Tryz.prog Tryz.f9 false true false false) := by
  refine returnsInHanded_of_cond_sized (C := Tryz.checked) (s := Rows.OpenSpec.upto Rows.streamCutSpec) (k := Rows.uptoSmall) rfl own started (by kernel_rfl) Tryz.func9
    (OpenSpec.witness (enc := enc) (C := Tryz.checked) (s := Rows.OpenSpec.upto Rows.streamCutSpec) (k := Rows.uptoSmall) rfl false ⟨#[], #[.slice none 0 0, .slice none 0 0, .int .i64 0, .string ByteArray.empty], []⟩ 8 (by kernel_rfl) (by kernel_rfl) (by kernel_rfl)
      (x := ([.nil, .nil, .lit (.int .i64 0), .lit (.string [])], [], [])) (by kernel_rfl) rfl (by kernel_rfl)) ?_
  intro W base args ds gs before hval0 hW hcnd hk0 hwz_ _
  have hsz : (DataW.weightsEach Tryz.prog (Tryz.f9.params.toList ++ Rows.streamCutSpec.plain.varTypes Tryz.prog) (ds ++ gs)).all (· ≤ reachBytes) = true := hwz_
  have hval : ∀ (j : Nat) t v, Tryz.f9.params[j]? = some t → args[j]? = some v → Value.okWide Tryz.prog W .any base t v := hval0
  have hW' := hW
  obtain ⟨p, q, hA0, hV, rfl, hfz, hnd⟩ := hW
  have hA : DataW.TrodAll enc Tryz.prog W 0 (fun _ => true) true Tryz.f9.params.toList args.toList ds p := hA0
  rw [Tryz.params9] at hA hval hsz
  obtain ⟨v0, vs0, d0, ds0, p0, q0, hargs, rfl, rfl, h0, r0⟩ := trodAll_cons hA
  obtain ⟨v1, vs1, d1, ds1, p1, q1, rfl, rfl, rfl, h1, r1⟩ := trodAll_cons r0
  obtain ⟨v2, vs2, d2, ds2, p2, q2, rfl, rfl, rfl, h2, r2⟩ := trodAll_cons r1
  obtain ⟨v3, vs3, d3, ds3, p3, q3, rfl, rfl, rfl, h3, r3⟩ := trodAll_cons r2
  obtain ⟨rfl, rfl, rfl⟩ := trodAll_nil r3
  obtain rfl : args = #[v0, v1, v2, v3] := by cases args; simp_all
  obtain ⟨rfl, rfl⟩ := trodVars_none hV
  have k0 := h0
  have lt0 : ∀ x ∈ p0, x.block < W.heap.size := by obtain ⟨m, hm⟩ := k0; exact DataW.trod_lt m _ _ _ hm
  obtain ⟨a0, len0, cap0, rfl⟩ := okWide_slice Tryz.underlying22 (hval 0 22 v0 rfl rfl)
  obtain ⟨fuel0, hf0⟩ := h0
  obtain ⟨A0, c0, l0, hcs0, hlc0, hcm0, hC0, hG0, hB0, hx0⟩ := Z.Opens.row Tryz.underlying22 Z.opens77 (of_decide_eq_true (by kernel_rfl)) hf0
  simp only [Value.cells, List.cons.injEq, Value.slice.injEq, and_true] at hcs0
  obtain ⟨rfl, rfl, rfl⟩ := hcs0
  have hlm0 : l0.length ≤ maxLen := Nat.le_trans hlc0 hcm0
  have k1 := h1
  have lt1 : ∀ x ∈ p1, x.block < W.heap.size := by obtain ⟨m, hm⟩ := k1; exact DataW.trod_lt m _ _ _ hm
  obtain ⟨a1, len1, cap1, rfl⟩ := okWide_slice Tryz.underlying22 (hval 1 22 v1 rfl rfl)
  obtain ⟨fuel1, hf1⟩ := h1
  obtain ⟨A1, c1, l1, hcs1, hlc1, hcm1, hC1, hG1, hB1, hx1⟩ := Z.Opens.row Tryz.underlying22 Z.opens77 (of_decide_eq_true (by kernel_rfl)) hf1
  simp only [Value.cells, List.cons.injEq, Value.slice.injEq, and_true] at hcs1
  obtain ⟨rfl, rfl, rfl⟩ := hcs1
  have hlm1 : l1.length ≤ maxLen := Nat.le_trans hlc1 hcm1
  have k2 := h2
  have lt2 : ∀ x ∈ p2, x.block < W.heap.size := by obtain ⟨m, hm⟩ := k2; exact DataW.trod_lt m _ _ _ hm
  obtain ⟨a2, rfl, rfl, rfl, w2⟩ := open_int Tryz.underlying3 (hval 2 3 v2 rfl rfl) h2
  have k3 := h3
  have lt3 : ∀ x ∈ p3, x.block < W.heap.size := by obtain ⟨m, hm⟩ := k3; exact DataW.trod_lt m _ _ _ hm
  obtain ⟨a3, rfl, rfl, rfl, y3⟩ := open_string Tryz.underlying9 (hval 3 9 v3 rfl rfl) h3
  have w3 := y3
  have hbk : ((l0.map Z.B77).sum + 1) + ((l1.map Z.B77).sum + 1) + 1 + (a3.size + 1) ≤ 1048576 := by
    have hb_ := of_decide_eq_true hk0
    simp only [Rows.uptoBulkAll, Rows.uptoBulk, List.append_nil, Array.length_toList, List.map_cons, List.map_nil] at hb_
    (try simp only [show ∀ s : ByteArray, s.data.size = s.size from fun _ => rfl] at hb_)
    (try dsimp only at hB0)
    (try dsimp only at hB1)
    omega
  have hP := Pure.StreamCut l0 l1 a2 a3 hlm0 hG0 hlm1 hG1 w2 w3 hbk
  refine (Z.cambiumlaw18_StreamCut.calls _ _ l0 _ _ l1 a2 a3 true W hC0 hlc0 hC1 hlc1 hP).mono fun e W' ⟨he, bel0⟩ => ?_
  have bel : Below W.heap.size W W' := bel0
  subst he
  exact ⟨_, rfl, _, _, _, [], _, [], hW', trodAll_mk1 (shut_bool Tryz.underlying4 _), (trodAll_cons_mk (Below.trod laidOut (by kernel_rfl) (of_decide_eq_true (by kernel_rfl)) k0 bel lt0) (trodAll_cons_mk (Below.trod laidOut (by kernel_rfl) (of_decide_eq_true (by kernel_rfl)) k1 bel lt1) (trodAll_cons_mk (Below.trod laidOut (by kernel_rfl) (of_decide_eq_true (by kernel_rfl)) k2 bel lt2) (trodAll_cons_mk (Below.trod laidOut (by kernel_rfl) (of_decide_eq_true (by kernel_rfl)) k3 bel lt3) trodAll_mk0)))), rfl, bel.frame _, fun h => by cases h⟩
theorem over : Rows.streamCutUptoRow.holds Tryz.pinned (Rows.OpenSpec.upto Rows.streamCutSpec) :=
  OpenClaim.holds_of_cond 9 Tryz.f9 rfl rfl rfl rfl rfl rfl rfl ⟨rfl, rfl, rfl, rfl, rfl⟩ rfl rfl rfl rfl rfl (by kernel_rfl) Tryz.func9 (by kernel_rfl)
    (of_decide_eq_true (by kernel_rfl)) (by unfold Func.isWrapper; first | (rw [if_pos (by decide +kernel)]; kernel_rfl) | (rw [if_neg (by decide +kernel)]; exact ⟨rfl, rfl⟩))
    (fun os started H enc _ F => lifted os started H enc F)
end Go.Proofs.YtfkofbabeghgkaaGreat.streamCut
namespace Go.Proofs.YtfkofbabeghgkaaGreat
theorem streamCut_holds : Rows.StreamCutUptoSaid := streamCut.over
#print axioms streamCut_holds
end Go.Proofs.YtfkofbabeghgkaaGreat
end
