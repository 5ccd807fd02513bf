/- This session's own texts, laid together (a part that several claims share). -/
import Derived.Test.YtpnmajblhgnkoaaMB3
import Derived.Test.YtpnmajblhgnkoaaProg
import Derived.Test.YtpnmajblhgnkoaaMB1
import Derived.Test.YtpnmajblhgnkoaaMB2
import Derived.Laws.BitsLemmas
import Derived.Laws.Bits64
import Derived.Lib.BitFns
import Derived.Lib.Strings
import Derived.Test.YtpnmajblhgnkoaaRows
import Derived.Lib.SmallJoins
import Derived.Deep.Strs
import Derived.SizedLaws
import Derived.ChangeArms
section
/- Numbers as bytes; inodes and keys as bytes: over lists (no program in sight). -/
namespace Go.Proofs.Ytpnmajblhgnkoaa.PM
open Go
/-- The w bytes of a number, the greatest first. -/
def be : Nat → Nat → List UInt8
  | 0, _ => []
  | w + 1, n => be w (n / 256) ++ [UInt8.ofNat (n % 256)]
theorem be_len : ∀ w n, (be w n).length = w
  | 0, _ => rfl
  | w + 1, n => by rw [be, List.length_append, be_len w]; rfl
theorem be_cons : ∀ w n, be (w + 1) n = UInt8.ofNat (n / 256 ^ w % 256) :: be w n
  | 0, n => by simp [be]
  | w + 1, n => by
    have h := be_cons w (n / 256)
    rw [be, h, be, List.cons_append, Nat.div_div_eq_div_mul, ← Nat.pow_succ']
def num (l : List UInt8) : Nat := l.foldl (fun a b => a * 256 + b.toNat) 0
theorem num_snoc (l : List UInt8) (b : UInt8) : num (l ++ [b]) = num l * 256 + b.toNat := by simp [num]
theorem ofNat_toNat (n : Nat) : (UInt8.ofNat (n % 256)).toNat = n % 256 := by simp
theorem num_be : ∀ w n, n < 256 ^ w → num (be w n) = n
  | 0, n, h => by
    have : n = 0 := by simpa using h
    subst this
    rfl
  | w + 1, n, h => by
    rw [be, num_snoc, num_be w (n / 256) (by rw [Nat.pow_succ] at h; omega), ofNat_toNat]
    omega
theorem num_lt : ∀ (k : Nat) (l : List UInt8), l.length = k → num l < 256 ^ k
  | 0, l, h => by rw [List.length_eq_zero_iff.1 h]; exact Nat.one_pos
  | k + 1, l, h => by
    obtain rfl | ⟨l', b, rfl⟩ := List.eq_nil_or_concat l
    · cases h
    · rw [List.concat_eq_append] at h ⊢
      rw [num_snoc, Nat.pow_succ]
      have h1 := num_lt k l' (by simpa using h)
      have h2 := b.toNat_lt
      omega
theorem be_num : ∀ (k : Nat) (l : List UInt8), l.length = k → be k (num l) = l
  | 0, l, h => by rw [List.length_eq_zero_iff.1 h]; rfl
  | k + 1, l, h => by
    obtain rfl | ⟨l', b, rfl⟩ := List.eq_nil_or_concat l
    · cases h
    · rw [List.concat_eq_append] at h ⊢
      have h2 := b.toNat_lt
      rw [num_snoc, be, show (num l' * 256 + b.toNat) / 256 = num l' by omega, show (num l' * 256 + b.toNat) % 256 = b.toNat by omega, be_num k l' (by simpa using h)]
      simp
theorem bl_pre : ∀ (a x y : List UInt8), Op.bytesLess (a ++ x) (a ++ y) = Op.bytesLess x y
  | [], _, _ => rfl
  | c :: a, x, y => by
    rw [List.cons_append, List.cons_append, Op.bytesLess, bl_pre a x y]
    simp [UInt8.lt_irrefl]
theorem tk {n : Nat} {a r : List UInt8} (h : a.length = n) : (a ++ r).take n = a := by subst h; simp
theorem dr {n : Nat} {a r : List UInt8} (h : a.length = n) : (a ++ r).drop n = r := by subst h; simp

/-! ### Inodes -/
def okN (k l s : Int) (t : List UInt8) : Bool :=
  decide (k = 1 ∧ l = 1 ∧ s = 0 ∧ t = [] ∨ k = 2 ∧ 0 < l ∧ s ≤ 65536 ∧ t = [] ∨ k = 3 ∧ 0 < l ∧ t ≠ [] ∧ t.length ≤ 64 ∧ 0 ∉ t ∧ s = t.length)
def enc (k m l s : Int) (t : List UInt8) : List UInt8 := be 1 k.toNat ++ (be 2 m.toNat ++ (be 4 l.toNat ++ (be 4 s.toNat ++ (be 2 t.length ++ t))))
def encS (k m l s : Int) (t : List UInt8) : List UInt8 × Int := if okN k l s t = true then (enc k m l s t, 0) else ([], 4)
abbrev Ino := Int × Int × Int × Int × List UInt8 × Int
def d3 (l : List UInt8) : List UInt8 := (l.drop 1).drop 2
def d7 (l : List UInt8) : List UInt8 := (d3 l).drop 4
def d11 (l : List UInt8) : List UInt8 := (d7 l).drop 4
def d13 (l : List UInt8) : List UInt8 := (d11 l).drop 2
def f1 (l : List UInt8) : Int := num (l.take 1)
def f2 (l : List UInt8) : Int := num ((l.drop 1).take 2)
def f3 (l : List UInt8) : Int := num ((d3 l).take 4)
def f4 (l : List UInt8) : Int := num ((d7 l).take 4)
def whole (l : List UInt8) : Prop := 13 ≤ l.length ∧ l.length = 13 + num ((d11 l).take 2)
instance (l : List UInt8) : Decidable (whole l) := by unfold whole; infer_instance
def decS (l : List UInt8) : Ino := if whole l ∧ okN (f1 l) (f3 l) (f4 l) (d13 l) = true then (f1 l, f2 l, f3 l, f4 l, d13 l, 0) else (0, 0, 0, 0, [], 4)
theorem p1 : 256 ^ 1 = 256 := rfl
theorem p2 : 256 ^ 2 = 65536 := rfl
theorem p4 : 256 ^ 4 = 4294967296 := rfl
theorem f_range (l : List UInt8) (h : whole l) : (0 ≤ f1 l ∧ f1 l < 256) ∧ (0 ≤ f2 l ∧ f2 l < 65536) ∧ (0 ≤ f3 l ∧ f3 l < 4294967296) ∧ (0 ≤ f4 l ∧ f4 l < 4294967296) := by
  obtain ⟨h1, h2⟩ := h
  have l3 : (d3 l).length = l.length - 3 := by unfold d3; simp only [List.length_drop]; omega
  have l7 : (d7 l).length = l.length - 7 := by unfold d7; rw [List.length_drop, l3]; omega
  have a1 := num_lt 1 (l.take 1) (by rw [List.length_take]; omega)
  have a2 := num_lt 2 ((l.drop 1).take 2) (by rw [List.length_take, List.length_drop]; omega)
  have a3 := num_lt 4 ((d3 l).take 4) (by rw [List.length_take]; omega)
  have a4 := num_lt 4 ((d7 l).take 4) (by rw [List.length_take]; omega)
  rw [p1] at a1
  rw [p2] at a2
  rw [p4] at a3 a4
  unfold f1 f2 f3 f4
  omega

/-! ### Keys -/
def lett (k : Int) : List UInt8 := if k = 1 then [105] else if k = 2 then [100] else if k = 3 then [99] else if k = 4 then [120] else []
def prefL (k i : Int) : List UInt8 := if lett k = [] then [] else lett k ++ be 4 i.toNat
def rightK (k i : Int) (nm : List UInt8) (c : Int) : Bool :=
  decide (0 < i ∧ (k = 1 ∧ nm = [] ∧ c = 0 ∨ (k = 2 ∨ k = 4) ∧ nameL nm = true ∧ c = 0 ∨ k = 3 ∧ nm = [] ∧ c < 512))
def keyL (k i : Int) (nm : List UInt8) (c : Int) : List UInt8 := prefL k i ++ (if k = 3 then be 4 c.toNat else nm)
def keyS (k i : Int) (nm : List UInt8) (c : Int) : List UInt8 × Int := if rightK k i nm c = true then (keyL k i nm c, 0) else ([], 4)
def kindOf (b : UInt8) : Int := if b = 105 then 1 else if b = 100 then 2 else if b = 99 then 3 else if b = 120 then 4 else 0
abbrev KeyT := Int × Int × List UInt8 × Int × Int
def g1 (l : List UInt8) : Int := kindOf (l.headD 0)
def g2 (l : List UInt8) : Int := num ((l.drop 1).take 4)
def r5 (l : List UInt8) : List UInt8 := (l.drop 1).drop 4
def parsS (l : List UInt8) : KeyT :=
  if l.length < 5 then (0, 0, [], 0, 4)
  else if g1 l = 3 then if (r5 l).length = 4 ∧ rightK 3 (g2 l) [] (num (r5 l)) = true then (3, g2 l, [], num (r5 l), 0) else (0, 0, [], 0, 4)
  else if rightK (g1 l) (g2 l) (r5 l) 0 = true then (g1 l, g2 l, r5 l, 0, 0) else (0, 0, [], 0, 4)
theorem lett_one {k : Int} (h : lett k ≠ []) : ∃ b, lett k = [b] ∧ kindOf b = k := by
  unfold lett at *
  by_cases h1 : k = 1
  · subst h1; exact ⟨105, rfl, rfl⟩
  · by_cases h2 : k = 2
    · subst h2; exact ⟨100, rfl, rfl⟩
    · by_cases h3 : k = 3
      · subst h3; exact ⟨99, rfl, rfl⟩
      · by_cases h4 : k = 4
        · subst h4; exact ⟨120, rfl, rfl⟩
        · rw [if_neg h1, if_neg h2, if_neg h3, if_neg h4] at h
          exact absurd rfl h
theorem lett_ne {k i : Int} {nm : List UInt8} {c : Int} (h : rightK k i nm c = true) : lett k ≠ [] := by
  unfold rightK at h
  have h := (of_decide_eq_true h).2
  unfold lett
  rcases h with h | h | h
  · rw [if_pos h.1]; simp
  · rcases h.1 with h | h <;> subst h <;> decide
  · rw [h.1]; decide
theorem prefL_len {k i : Int} (h : lett k ≠ []) : (prefL k i).length = 5 := by
  obtain ⟨b, hb, _⟩ := lett_one h
  unfold prefL
  rw [if_neg h, hb, List.length_append, be_len]
  rfl
theorem key_parts {k i : Int} {nm : List UInt8} {c : Int} (h : lett k ≠ []) (hi : 0 ≤ i ∧ i < 4294967296) :
    g1 (keyL k i nm c) = k ∧ g2 (keyL k i nm c) = i ∧ r5 (keyL k i nm c) = (if k = 3 then be 4 c.toNat else nm) ∧ ¬ (keyL k i nm c).length < 5 := by
  obtain ⟨b, hb, hk⟩ := lett_one h
  have e : keyL k i nm c = b :: (be 4 i.toNat ++ (if k = 3 then be 4 c.toNat else nm)) := by
    unfold keyL prefL
    rw [if_neg h, hb]
    rfl
  rw [e]
  refine ⟨hk, ?_, ?_, ?_⟩
  · unfold g2
    rw [List.drop_one, List.tail_cons, tk (be_len _ _), num_be 4 _ (by rw [p4]; omega)]
    omega
  · unfold r5
    rw [List.drop_one, List.tail_cons, dr (be_len _ _)]
  · rw [List.length_cons, List.length_append, be_len]; omega
theorem pars_key {k i : Int} {nm : List UInt8} {c : Int} (h : rightK k i nm c = true) (hi : 0 ≤ i ∧ i < 4294967296) (hc : 0 ≤ c) : parsS (keyL k i nm c) = (k, i, nm, c, 0) := by
  have hl := lett_ne h
  obtain ⟨a1, a2, a3, a4⟩ := key_parts (nm := nm) (c := c) hl hi
  unfold parsS
  rw [if_neg a4, a1, a2, a3]
  have h0 := h
  unfold rightK at h0
  have h1 := (of_decide_eq_true h0).2
  by_cases h3 : k = 3
  · subst h3
    have hn : nm = [] ∧ c < 512 := by
      rcases h1 with h1 | h1 | h1
      · exact absurd h1.1 (by decide)
      · rcases h1.1 with h1 | h1 <;> exact absurd h1 (by decide)
      · exact h1.2
    obtain ⟨rfl, hc2⟩ := hn
    have e : ((num (be 4 c.toNat) : Nat) : Int) = c := by rw [num_be 4 _ (by rw [p4]; omega)]; omega
    rw [if_pos rfl, if_pos rfl, e, if_pos ⟨be_len _ _, h⟩]
  · have hc0 : c = 0 := by
      rcases h1 with h1 | h1 | h1
      · exact h1.2.2
      · exact h1.2.2
      · exact absurd h1.1 h3
    subst hc0
    rw [if_neg h3, if_neg h3, if_pos h]
theorem kind_lett {b : UInt8} (h : kindOf b ≠ 0) : lett (kindOf b) = [b] := by
  unfold kindOf at *
  by_cases h1 : b = 105
  · subst h1; rfl
  · by_cases h2 : b = 100
    · subst h2; rfl
    · by_cases h3 : b = 99
      · subst h3; rfl
      · by_cases h4 : b = 120
        · subst h4; rfl
        · rw [if_neg h1, if_neg h2, if_neg h3, if_neg h4] at h
          exact absurd rfl h
theorem key_whole {l : List UInt8} (h5 : ¬ l.length < 5) (hk : g1 l ≠ 0) : prefL (g1 l) (g2 l) ++ r5 l = l := by
  match l, h5 with
  | b :: r, h5 =>
    have hk : kindOf b ≠ 0 := hk
    have e : lett (g1 (b :: r)) = [b] := kind_lett hk
    have hr : 4 ≤ r.length := by simp at h5; omega
    unfold prefL
    rw [e, if_neg (by simp)]
    unfold g2 r5
    rw [List.drop_one, List.tail_cons, Int.toNat_natCast, be_num 4 _ (by rw [List.length_take]; omega)]
    simp
  | [], h5 => exact absurd (by decide) h5
theorem g2_range {l : List UInt8} (h5 : ¬ l.length < 5) : 0 ≤ g2 l ∧ g2 l < 4294967296 := by
  have a := num_lt 4 ((l.drop 1).take 4) (by rw [List.length_take, List.length_drop]; omega)
  rw [p4] at a
  unfold g2
  omega
theorem right_kind {k i : Int} {nm : List UInt8} {c : Int} (h : rightK k i nm c = true) : k ≠ 0 := by
  unfold rightK at h
  have h := (of_decide_eq_true h).2
  omega
theorem key_pars {l : List UInt8} {k i : Int} {nm : List UInt8} {c e : Int} (h : parsS l = (k, i, nm, c, e)) (he : e = 0) :
    rightK k i nm c = true ∧ keyL k i nm c = l ∧ (0 ≤ i ∧ i < 4294967296) ∧ 0 ≤ c := by
  subst he
  unfold parsS at h
  by_cases h5 : l.length < 5
  · rw [if_pos h5] at h; simp at h
  · rw [if_neg h5] at h
    by_cases h3 : g1 l = 3
    · rw [if_pos h3] at h
      by_cases hr : (r5 l).length = 4 ∧ rightK 3 (g2 l) [] (num (r5 l)) = true
      · rw [if_pos hr] at h
        simp only [Prod.mk.injEq] at h
        obtain ⟨rfl, rfl, rfl, rfl, _⟩ := h
        have hw := key_whole h5 (by rw [h3]; decide)
        refine ⟨hr.2, ?_, g2_range h5, by omega⟩
        unfold keyL
        rw [if_pos rfl, Int.toNat_natCast, be_num 4 _ hr.1]
        rw [h3] at hw
        exact hw
      · rw [if_neg hr] at h; simp at h
    · rw [if_neg h3] at h
      by_cases hr : rightK (g1 l) (g2 l) (r5 l) 0 = true
      · rw [if_pos hr] at h
        simp only [Prod.mk.injEq] at h
        obtain ⟨rfl, rfl, rfl, rfl, _⟩ := h
        refine ⟨hr, ?_, g2_range h5, by omega⟩
        unfold keyL
        rw [if_neg h3]
        exact key_whole h5 (right_kind hr)
      · rw [if_neg hr] at h; simp at h
end Go.Proofs.Ytpnmajblhgnkoaa.PM
end

section
-- Printed by a program of this session (mp.py) out of the translation.
namespace Go.Proofs.Ytpnmajblhgnkoaa.Z
open Go.RowKit Go.Proofs.YtpnmajblhgnkoaaW.PrintWords Go.Proofs.YtpnmajblhgnkoaaW.PrintLast Go.Proofs.YtpnmajblhgnkoaaW.PrintMore
attribute [local go_sem] max2_int min2_int max_two min_two max_three min_three max_four min_four   -- for this text's walks alone
set_option linter.unusedVariables false
set_option linter.unusedSimpArgs false

/-! ### pack_Text: function 32 -/
def pack_Text.f (k : Nat) (a0 : ByteArray) : Option (ByteArray × Int) := (pack_Number.f k (IntKind.u64.wrap ((a0.size : Int))) 2).bind fun bt206 => (if bt206.2 = 0 then (if bt206.1.size + a0.size ≤ 9223372036854775807 then (some (bt206.1 ++ a0, 0)) else (none)) else (some ((⟨#[]⟩ : ByteArray), 2)))
theorem pack_Text.mono : ∀ a0 k, LeO (pack_Text.f k a0) (pack_Text.f (k + 1) a0) := by
  intro a0 k
  unfold pack_Text.f
  repeat' first
      | (with_reducible exact pack_Number.mono _ _ _)
      | (with_reducible exact LeO.refl _)
      | (with_reducible exact LeO.none _)
      | (with_reducible refine LeO.ite ?_ ?_)
      | (with_reducible refine LeO.bind ?_ (fun _ => ?_))
      | exact pack_Number.mono _ _ _
      | exact LeO.none _
      | refine LeO.ite ?_ ?_
      | refine LeO.bind ?_ (fun _ => ?_)
set_option maxHeartbeats 8000000 in
set_option maxRecDepth 100000 in
theorem pack_Text.calls (k : Nat) (a0 : ByteArray) (r1 : ByteArray) (r2 : Int) (w : World) (h : pack_Text.f k a0 = some (r1, r2)) :
    Calls Try.prog 32 #[.string a0] w fun e w' => e = .returned (.tuple #[.string r1, .int .i64 r2]) ∧ Below w.heap.size w w' := by
  have HB := Aside0.mk (Below.refl w.heap.size w)
  have H : ((pack_Number.f k (IntKind.u64.wrap ((a0.size : Int))) 2).bind fun bt206 => (if bt206.2 = 0 then (if bt206.1.size + a0.size ≤ 9223372036854775807 then (some (bt206.1 ++ a0, 0)) else (none)) else (some ((⟨#[]⟩ : ByteArray), 2)))) = some (r1, r2) := h
  clear h
  replace H := Option.bind_eq_some_iff.mp H
  obtain ⟨⟨t206, t207⟩, A20, H⟩ := H
  replace H : (if t207 = 0 then (if t206.size + a0.size ≤ 9223372036854775807 then (some (t206 ++ a0, 0)) else (none)) else (some ((⟨#[]⟩ : ByteArray), 2))) = some (r1, r2) := H
  have A2 := Aside0.mk A20
  clear A20
  by_cases c3 : t207 = 0
  · rw [if_pos c3] at H
    have c3b0 : (t207 == 0) = true := beq_iff_eq.mpr c3
    have c3b1 : (t207 != 0) = false := bne_eq_false_iff_eq.mpr c3
    clear c3
    by_cases c4 : t206.size + a0.size ≤ 9223372036854775807
    · rw [if_pos c4] at H
      have c4b0 := eq_true c4
      have c4b1 : decide (t206.size + a0.size ≤ 9223372036854775807) = true := decide_eq_true c4
      try have c4b2 : (9223372036854775807 < t206.size + a0.size) = False := eq_false (Nat.not_lt.2 c4)
      simp only [Option.some.injEq, Prod.mk.injEq] at H
      obtain ⟨rfl, rfl⟩ := H
      go_enter Try.func32, Try.ntmps32
      go_wp2_with (first | ((with_reducible refine gate_callee (f := 46) rfl ?_); refine goesL_ (some 10) rfl rfl Try.func46 (by kernel_rfl) rfl #[.int .u64 (IntKind.u64.wrap ((a0.size : Int))), .int .i64 2] rfl (by (try simp only [List.map_toArray, List.map_cons, List.map_nil]); first | done | rfl | (rw [show IntKind.u64.wrap ((a0.size : Int)) = ((a0.size : Int)) from IntWalk.u64_in _ (by simp only [decide_eq_false_iff_not, decide_eq_true_eq] at *; omega)]; rfl) | (simp only [List.length_drop, List.length_take]; rfl)) ?_; (with_reducible refine (pack_Number.calls k (IntKind.u64.wrap ((a0.size : Int))) 2 t206 t207 _ A2.out).mono ?_); rintro e w5 ⟨rfl, hb⟩; refine ⟨_, rfl, ?_⟩; replace HB := hb_ hb; (try clear hb); (try clear hb2); (try clear hk); (try clear hi)))
      go_ret2
      exact ⟨by first | rfl | (simp [errW_none, errW_some] <;> rfl) | (simp [*, errW_none, errW_some] <;> rfl), bel_⟩
    rw [if_neg c4] at H
    exact absurd H (by simp)
  rw [if_neg c3] at H
  have c3b0 : (t207 == 0) = false := beq_eq_false_iff_ne.mpr c3
  have c3b1 : (t207 != 0) = true := bne_iff_ne.mpr c3
  simp only [Option.some.injEq, Prod.mk.injEq] at H
  obtain ⟨rfl, rfl⟩ := H
  go_enter Try.func32, Try.ntmps32
  go_wp2_with (first | ((with_reducible refine gate_callee (f := 46) rfl ?_); refine goesL_ (some 10) rfl rfl Try.func46 (by kernel_rfl) rfl #[.int .u64 (IntKind.u64.wrap ((a0.size : Int))), .int .i64 2] rfl (by (try simp only [List.map_toArray, List.map_cons, List.map_nil]); first | done | rfl | (rw [show IntKind.u64.wrap ((a0.size : Int)) = ((a0.size : Int)) from IntWalk.u64_in _ (by simp only [decide_eq_false_iff_not, decide_eq_true_eq] at *; omega)]; rfl) | (simp only [List.length_drop, List.length_take]; rfl)) ?_; (with_reducible refine (pack_Number.calls k (IntKind.u64.wrap ((a0.size : Int))) 2 t206 t207 _ A2.out).mono ?_); rintro e w6 ⟨rfl, hb⟩; refine ⟨_, rfl, ?_⟩; replace HB := hb_ hb; (try clear hb); (try clear hb2); (try clear hk); (try clear hi)))
  go_ret2
  exact ⟨by first | rfl | (simp [errW_none, errW_some] <;> rfl) | (simp [*, errW_none, errW_some] <;> rfl), bel_⟩

end Go.Proofs.Ytpnmajblhgnkoaa.Z
end

section
-- Printed by a program of this session (mp.py) out of the translation.
namespace Go.Proofs.Ytpnmajblhgnkoaa.Z
open Go.RowKit Go.Proofs.YtpnmajblhgnkoaaW.PrintWords Go.Proofs.YtpnmajblhgnkoaaW.PrintLast Go.Proofs.YtpnmajblhgnkoaaW.PrintMore
attribute [local go_sem] max2_int min2_int max_two min_two max_three min_three max_four min_four   -- for this text's walks alone
set_option linter.unusedVariables false
set_option linter.unusedSimpArgs false

/-! ### inode_Encode: function 21 -/
def inode_Encode.f (k : Nat) (a0_0 : Int) (a0_1 : Int) (a0_2 : Int) (a0_3 : Int) (a0_4 : ByteArray) : Option (ByteArray × Int) := (inode_Check.f a0_0 a0_1 a0_2 a0_3 a0_4).bind fun t209 => (if t209 = 0 then ((pack_Text.f k a0_4).bind fun bt210 => ((inode_number.f k (IntKind.u64.wrap (a0_0)) 1).bind fun t212 => ((inode_number.f k (IntKind.u64.wrap (a0_1)) 2).bind fun t213 => (if t212.size + t213.size ≤ 9223372036854775807 then ((inode_number.f k (IntKind.u64.wrap (a0_2)) 4).bind fun t214 => (if (t212 ++ t213).size + t214.size ≤ 9223372036854775807 then ((inode_number.f k (IntKind.u64.wrap (a0_3)) 4).bind fun t215 => (if ((t212 ++ t213) ++ t214).size + t215.size ≤ 9223372036854775807 then (if (((t212 ++ t213) ++ t214) ++ t215).size + bt210.1.size ≤ 9223372036854775807 then (some ((((t212 ++ t213) ++ t214) ++ t215) ++ bt210.1, 0)) else (none)) else (none))) else (none))) else (none))))) else (some ((⟨#[]⟩ : ByteArray), t209)))
theorem inode_Encode.mono : ∀ a0 a1 a2 a3 a4 k, LeO (inode_Encode.f k a0 a1 a2 a3 a4) (inode_Encode.f (k + 1) a0 a1 a2 a3 a4) := by
  intro a0 a1 a2 a3 a4 k
  unfold inode_Encode.f
  repeat' first
      | (with_reducible exact inode_number.mono _ _ _)
      | (with_reducible exact pack_Text.mono _ _)
      | (with_reducible exact LeO.refl _)
      | (with_reducible exact LeO.none _)
      | (with_reducible refine LeO.ite ?_ ?_)
      | (with_reducible refine LeO.bind ?_ (fun _ => ?_))
      | exact inode_number.mono _ _ _
      | exact pack_Text.mono _ _
      | exact LeO.none _
      | refine LeO.ite ?_ ?_
      | refine LeO.bind ?_ (fun _ => ?_)
def inode_Encode.T5 : Bool × List (List Nat × List Nat) := (true, [([], []), ([0], [0]), ([1], [1]), ([2], [2]), ([], []), ([4], [4]), ([5], [5]), ([6, 3], [6]), ([3, 7], [3, 7]), ([], []), ([9], [9]), ([10], [10]), ([11, 7], [11]), ([8, 12], [8, 12]), ([], []), ([14], [14]), ([15], [15]), ([16, 12], [16]), ([13, 17], [13, 17]), ([], []), ([18, 19], [18, 19]), ([20, 17, 0, 1, 2, 3, 4, 5, 6, 7, 8, 9, 10, 11, 12, 13, 14, 15, 16, 17, 18, 19, 20], [20]), ([21, 0, 1, 2, 3, 4, 5, 6, 7, 8, 9, 10, 11, 12, 13, 14, 15, 16, 17, 18, 19, 20, 21], [])])
def inode_Encode.B5 : List Nat := [0, 1, 3, 7, 0, 16, 48, 127, 255, 0, 512, 1536, 3839, 8191, 0, 16384, 49152, 122623, 262143, 0, 1048575, 2097151, 4194303]
theorem inode_Encode.tab5 : rtab .any (opsOf Try.f21 5) = inode_Encode.T5 := by kernel_rfl
theorem inode_Encode.bits5 : waitsOk inode_Encode.T5.2 inode_Encode.B5 = true := by kernel_rfl
set_option maxHeartbeats 8000000 in
set_option maxRecDepth 100000 in
theorem inode_Encode.calls (k : Nat) (a0_0 : Int) (a0_1 : Int) (a0_2 : Int) (a0_3 : Int) (a0_4 : ByteArray) (r1 : ByteArray) (r2 : Int) (w : World) (h : inode_Encode.f k a0_0 a0_1 a0_2 a0_3 a0_4 = some (r1, r2)) :
    Calls Try.prog 21 #[.agg #[.int .u8 a0_0, .int .u16 a0_1, .int .u32 a0_2, .int .u32 a0_3, .string a0_4]] w fun e w' => e = .returned (.tuple #[.string r1, .int .i64 r2]) ∧ Below w.heap.size w w' := by
  have hu37 := Try.underlying37
  have HB := Aside0.mk (Below.refl w.heap.size w)
  have H : ((inode_Check.f a0_0 a0_1 a0_2 a0_3 a0_4).bind fun t209 => (if t209 = 0 then ((pack_Text.f k a0_4).bind fun bt210 => ((inode_number.f k (IntKind.u64.wrap (a0_0)) 1).bind fun t212 => ((inode_number.f k (IntKind.u64.wrap (a0_1)) 2).bind fun t213 => (if t212.size + t213.size ≤ 9223372036854775807 then ((inode_number.f k (IntKind.u64.wrap (a0_2)) 4).bind fun t214 => (if (t212 ++ t213).size + t214.size ≤ 9223372036854775807 then ((inode_number.f k (IntKind.u64.wrap (a0_3)) 4).bind fun t215 => (if ((t212 ++ t213) ++ t214).size + t215.size ≤ 9223372036854775807 then (if (((t212 ++ t213) ++ t214) ++ t215).size + bt210.1.size ≤ 9223372036854775807 then (some ((((t212 ++ t213) ++ t214) ++ t215) ++ bt210.1, 0)) else (none)) else (none))) else (none))) else (none))))) else (some ((⟨#[]⟩ : ByteArray), t209)))) = some (r1, r2) := h
  clear h
  replace H := Option.bind_eq_some_iff.mp H
  obtain ⟨t209, A20, H⟩ := H
  replace H : (if t209 = 0 then ((pack_Text.f k a0_4).bind fun bt210 => ((inode_number.f k (IntKind.u64.wrap (a0_0)) 1).bind fun t212 => ((inode_number.f k (IntKind.u64.wrap (a0_1)) 2).bind fun t213 => (if t212.size + t213.size ≤ 9223372036854775807 then ((inode_number.f k (IntKind.u64.wrap (a0_2)) 4).bind fun t214 => (if (t212 ++ t213).size + t214.size ≤ 9223372036854775807 then ((inode_number.f k (IntKind.u64.wrap (a0_3)) 4).bind fun t215 => (if ((t212 ++ t213) ++ t214).size + t215.size ≤ 9223372036854775807 then (if (((t212 ++ t213) ++ t214) ++ t215).size + bt210.1.size ≤ 9223372036854775807 then (some ((((t212 ++ t213) ++ t214) ++ t215) ++ bt210.1, 0)) else (none)) else (none))) else (none))) else (none))))) else (some ((⟨#[]⟩ : ByteArray), t209))) = some (r1, r2) := H
  have A2 := Aside0.mk A20
  clear A20
  by_cases c3 : t209 = 0
  · rw [if_pos c3] at H
    have c3b0 : (t209 == 0) = true := beq_iff_eq.mpr c3
    have c3b1 : (t209 != 0) = false := bne_eq_false_iff_eq.mpr c3
    clear c3
    replace H := Option.bind_eq_some_iff.mp H
    obtain ⟨⟨t210, t211⟩, A40, H⟩ := H
    replace H : ((inode_number.f k (IntKind.u64.wrap (a0_0)) 1).bind fun t212 => ((inode_number.f k (IntKind.u64.wrap (a0_1)) 2).bind fun t213 => (if t212.size + t213.size ≤ 9223372036854775807 then ((inode_number.f k (IntKind.u64.wrap (a0_2)) 4).bind fun t214 => (if (t212 ++ t213).size + t214.size ≤ 9223372036854775807 then ((inode_number.f k (IntKind.u64.wrap (a0_3)) 4).bind fun t215 => (if ((t212 ++ t213) ++ t214).size + t215.size ≤ 9223372036854775807 then (if (((t212 ++ t213) ++ t214) ++ t215).size + t210.size ≤ 9223372036854775807 then (some ((((t212 ++ t213) ++ t214) ++ t215) ++ t210, 0)) else (none)) else (none))) else (none))) else (none)))) = some (r1, r2) := H
    have A4 := Aside0.mk A40
    clear A40
    replace H := Option.bind_eq_some_iff.mp H
    obtain ⟨t212, A50, H⟩ := H
    replace H : ((inode_number.f k (IntKind.u64.wrap (a0_1)) 2).bind fun t213 => (if t212.size + t213.size ≤ 9223372036854775807 then ((inode_number.f k (IntKind.u64.wrap (a0_2)) 4).bind fun t214 => (if (t212 ++ t213).size + t214.size ≤ 9223372036854775807 then ((inode_number.f k (IntKind.u64.wrap (a0_3)) 4).bind fun t215 => (if ((t212 ++ t213) ++ t214).size + t215.size ≤ 9223372036854775807 then (if (((t212 ++ t213) ++ t214) ++ t215).size + t210.size ≤ 9223372036854775807 then (some ((((t212 ++ t213) ++ t214) ++ t215) ++ t210, 0)) else (none)) else (none))) else (none))) else (none))) = some (r1, r2) := H
    have A5 := Aside0.mk A50
    clear A50
    replace H := Option.bind_eq_some_iff.mp H
    obtain ⟨t213, A60, H⟩ := H
    replace H : (if t212.size + t213.size ≤ 9223372036854775807 then ((inode_number.f k (IntKind.u64.wrap (a0_2)) 4).bind fun t214 => (if (t212 ++ t213).size + t214.size ≤ 9223372036854775807 then ((inode_number.f k (IntKind.u64.wrap (a0_3)) 4).bind fun t215 => (if ((t212 ++ t213) ++ t214).size + t215.size ≤ 9223372036854775807 then (if (((t212 ++ t213) ++ t214) ++ t215).size + t210.size ≤ 9223372036854775807 then (some ((((t212 ++ t213) ++ t214) ++ t215) ++ t210, 0)) else (none)) else (none))) else (none))) else (none)) = some (r1, r2) := H
    have A6 := Aside0.mk A60
    clear A60
    by_cases c7 : t212.size + t213.size ≤ 9223372036854775807
    · rw [if_pos c7] at H
      have c7b0 := eq_true c7
      have c7b1 : decide (t212.size + t213.size ≤ 9223372036854775807) = true := decide_eq_true c7
      try have c7b2 : (9223372036854775807 < t212.size + t213.size) = False := eq_false (Nat.not_lt.2 c7)
      replace H := Option.bind_eq_some_iff.mp H
      obtain ⟨t214, A80, H⟩ := H
      replace H : (if (t212 ++ t213).size + t214.size ≤ 9223372036854775807 then ((inode_number.f k (IntKind.u64.wrap (a0_3)) 4).bind fun t215 => (if ((t212 ++ t213) ++ t214).size + t215.size ≤ 9223372036854775807 then (if (((t212 ++ t213) ++ t214) ++ t215).size + t210.size ≤ 9223372036854775807 then (some ((((t212 ++ t213) ++ t214) ++ t215) ++ t210, 0)) else (none)) else (none))) else (none)) = some (r1, r2) := H
      have A8 := Aside0.mk A80
      clear A80
      by_cases c9 : (t212 ++ t213).size + t214.size ≤ 9223372036854775807
      · rw [if_pos c9] at H
        have c9b0 := eq_true c9
        have c9b1 : decide ((t212 ++ t213).size + t214.size ≤ 9223372036854775807) = true := decide_eq_true c9
        have c9b1x := c9b1
        (try simp only [ByteArray.size_append, Int.natCast_add] at c9b1x)
        try have c9b2 : (9223372036854775807 < (t212 ++ t213).size + t214.size) = False := eq_false (Nat.not_lt.2 c9)
        try have c9b2x := c9b2
        (try simp only [ByteArray.size_append, Int.natCast_add] at c9b2x)
        replace H := Option.bind_eq_some_iff.mp H
        obtain ⟨t215, A100, H⟩ := H
        replace H : (if ((t212 ++ t213) ++ t214).size + t215.size ≤ 9223372036854775807 then (if (((t212 ++ t213) ++ t214) ++ t215).size + t210.size ≤ 9223372036854775807 then (some ((((t212 ++ t213) ++ t214) ++ t215) ++ t210, 0)) else (none)) else (none)) = some (r1, r2) := H
        have A10 := Aside0.mk A100
        clear A100
        by_cases c11 : ((t212 ++ t213) ++ t214).size + t215.size ≤ 9223372036854775807
        · rw [if_pos c11] at H
          have c11b0 := eq_true c11
          have c11b1 : decide (((t212 ++ t213) ++ t214).size + t215.size ≤ 9223372036854775807) = true := decide_eq_true c11
          have c11b1x := c11b1
          (try simp only [ByteArray.size_append, Int.natCast_add] at c11b1x)
          try have c11b2 : (9223372036854775807 < ((t212 ++ t213) ++ t214).size + t215.size) = False := eq_false (Nat.not_lt.2 c11)
          try have c11b2x := c11b2
          (try simp only [ByteArray.size_append, Int.natCast_add] at c11b2x)
          by_cases c12 : (((t212 ++ t213) ++ t214) ++ t215).size + t210.size ≤ 9223372036854775807
          · rw [if_pos c12] at H
            have c12b0 := eq_true c12
            have c12b1 : decide ((((t212 ++ t213) ++ t214) ++ t215).size + t210.size ≤ 9223372036854775807) = true := decide_eq_true c12
            have c12b1x := c12b1
            (try simp only [ByteArray.size_append, Int.natCast_add] at c12b1x)
            try have c12b2 : (9223372036854775807 < (((t212 ++ t213) ++ t214) ++ t215).size + t210.size) = False := eq_false (Nat.not_lt.2 c12)
            try have c12b2x := c12b2
            (try simp only [ByteArray.size_append, Int.natCast_add] at c12b2x)
            simp only [Option.some.injEq, Prod.mk.injEq] at H
            obtain ⟨rfl, rfl⟩ := H
            go_enter Try.func21, Try.ntmps21
            try go_wp2_with (first | ((with_reducible refine gate_dst (N := 1) rfl ?_); refine bx_ (N := 1) (cs := #[.int .u8 a0_0, .int .u16 a0_1, .int .u32 a0_2, .int .u32 a0_3, .string a0_4]) (t := 37) ?_; intro gb208 hg w13 hbox hb; have BK208 := Aside0.mk (hbox); have GW208 := ge_ hg; have GE208 := ge_ hg; replace HB := hb_ hb; clear hb hbox hg; obtain ⟨hcz14_0, hcz14_1, hcz14_2, hcz14_3, hcz14_4⟩ := cl5_ BK208; obtain ⟨hfz14_0, hfz14_1, hfz14_2, hfz14_3, hfz14_4⟩ := fz5_ BK208) | ((with_reducible refine gate_callee (f := 31) rfl ?_); refine gl_ (some 8) Try.func31 #[.agg #[.int .u8 a0_0, .int .u16 a0_1, .int .u32 a0_2, .int .u32 a0_3, .string a0_4]] ?_; (with_reducible refine (inode_Check.calls a0_0 a0_1 a0_2 a0_3 a0_4 t209 _ A2.out).mono ?_); rintro e w15 ⟨rfl, hb⟩; refine ⟨_, rfl, ?_⟩; replace BK208 := kb_ BK208 hb; replace HB := hb_ hb; (try clear hb); (try clear hb2); (try clear hk); (try clear hi); obtain ⟨hcz16_0, hcz16_1, hcz16_2, hcz16_3, hcz16_4⟩ := cl5_ BK208; obtain ⟨hfz16_0, hfz16_1, hfz16_2, hfz16_3, hfz16_4⟩ := fz5_ BK208) | ((with_reducible refine gate_callee (f := 32) rfl ?_); refine gl_ (some 15) Try.func32 #[.string a0_4] ?_; (with_reducible refine (pack_Text.calls k a0_4 t210 t211 _ A4.out).mono ?_); rintro e w17 ⟨rfl, hb⟩; refine ⟨_, rfl, ?_⟩; replace BK208 := kb_ BK208 hb; replace HB := hb_ hb; (try clear hb); (try clear hb2); (try clear hk); (try clear hi)))
            replace BK208 := Aside0.mk (blk_drew BK208.out)
            replace HB := Aside0.mk (below_drew1 HB.out)
            refine start_ (n := 23) (S := fun w' => w'.cell? ⟨gb208, 0, none⟩ = some (.int .u8 a0_0) ∧ w'.cell? ⟨gb208, 1, none⟩ = some (.int .u16 a0_1) ∧ w'.cell? ⟨gb208, 2, none⟩ = some (.int .u32 a0_2) ∧ w'.cell? ⟨gb208, 3, none⟩ = some (.int .u32 a0_3) ∧ w'.cell? ⟨gb208, 4, none⟩ = some (.string a0_4)) (ds := []) #[false, false, false, false, false, false, false, false, false, false, false, false, false, false, false, false, false, false, false, false, false, false, false] (by kernel_rfl) rfl rfl hc_ (fun hHeld => ?_); refine with_tabW inode_Encode.tab5 inode_Encode.bits5 (fun HT_ HW_ => ?_)
            generalize w17.drew = w18 at BK208 HB hHeld ⊢
            refine pu_ 0 18 ?_
            refine pu_ 4 22 ?_
            refine pu_ 9 27 ?_
            refine pu_ 14 32 ?_
            refine pu_ 19 37 ?_
            refine tk5_ 1 19 ?_
            refine pu_ 2 20 ?_
            refine tk5_ 5 23 ?_
            refine pu_ 6 24 ?_
            refine tk5_ 10 28 ?_
            refine pu_ 11 29 ?_
            refine tk5_ 15 33 ?_
            refine pu_ 16 34 ?_
            refine on_ 3 21 (fun K hK => ?_)
            refine goes_ Try.func30 (by kernel_rfl) rfl #[.int .u64 (IntKind.u64.wrap (a0_0)), .int .i64 1] (by rfl) rfl rfl (by (try simp only [List.map_toArray, List.map_cons, List.map_nil]); first | done | rfl | (simp only [List.length_drop, List.length_take]; rfl)) ?_
            with_reducible refine (inode_number.calls k (IntKind.u64.wrap (a0_0)) 1 t212 _ A5.out).mono ?_
            rintro e w19 ⟨rfl, hb⟩
            refine ⟨_, rfl, ?_⟩
            replace BK208 := kb_ BK208 hb
            replace HB := hb_ hb
            (try clear hb)
            (try clear hb2)
            (try clear hk)
            (try clear hi)
            refine hK.out _ _ hc_ (fun hHeld => ?_)
            clear hK K
            refine nm_ 21 ?_
            refine on_ 7 25 (fun K hK => ?_)
            refine goes_ Try.func30 (by kernel_rfl) rfl #[.int .u64 (IntKind.u64.wrap (a0_1)), .int .i64 2] (by rfl) rfl rfl (by (try simp only [List.map_toArray, List.map_cons, List.map_nil]); first | done | rfl | (simp only [List.length_drop, List.length_take]; rfl)) ?_
            with_reducible refine (inode_number.calls k (IntKind.u64.wrap (a0_1)) 2 t213 _ A6.out).mono ?_
            rintro e w20 ⟨rfl, hb⟩
            refine ⟨_, rfl, ?_⟩
            replace BK208 := kb_ BK208 hb
            replace HB := hb_ hb
            (try clear hb)
            (try clear hb2)
            (try clear hk)
            (try clear hi)
            refine hK.out _ _ hc_ (fun hHeld => ?_)
            clear hK K
            refine nm_ 25 ?_
            refine pu_ 8 26 ?_
            refine on_ 12 30 (fun K hK => ?_)
            refine goes_ Try.func30 (by kernel_rfl) rfl #[.int .u64 (IntKind.u64.wrap (a0_2)), .int .i64 4] (by rfl) rfl rfl (by (try simp only [List.map_toArray, List.map_cons, List.map_nil]); first | done | rfl | (simp only [List.length_drop, List.length_take]; rfl)) ?_
            with_reducible refine (inode_number.calls k (IntKind.u64.wrap (a0_2)) 4 t214 _ A8.out).mono ?_
            rintro e w21 ⟨rfl, hb⟩
            refine ⟨_, rfl, ?_⟩
            replace BK208 := kb_ BK208 hb
            replace HB := hb_ hb
            (try clear hb)
            (try clear hb2)
            (try clear hk)
            (try clear hi)
            refine hK.out _ _ hc_ (fun hHeld => ?_)
            clear hK K
            refine nm_ 30 ?_
            refine pu_ 13 31 ?_
            refine on_ 17 35 (fun K hK => ?_)
            refine goes_ Try.func30 (by kernel_rfl) rfl #[.int .u64 (IntKind.u64.wrap (a0_3)), .int .i64 4] (by rfl) rfl rfl (by (try simp only [List.map_toArray, List.map_cons, List.map_nil]); first | done | rfl | (simp only [List.length_drop, List.length_take]; rfl)) ?_
            with_reducible refine (inode_number.calls k (IntKind.u64.wrap (a0_3)) 4 t215 _ A10.out).mono ?_
            rintro e w22 ⟨rfl, hb⟩
            refine ⟨_, rfl, ?_⟩
            replace BK208 := kb_ BK208 hb
            replace HB := hb_ hb
            (try clear hb)
            (try clear hb2)
            (try clear hk)
            (try clear hi)
            refine hK.out _ _ hc_ (fun hHeld => ?_)
            clear hK K
            refine nm_ 35 ?_
            refine pu_ 18 36 ?_
            refine pu_ 20 38 ?_
            refine pu_ 21 2 ?_
            refine pu_ 22 3 ?_
            refine done_ (done_of HT_.out (by kernel_rfl)) ?_
            try go_wp2
            go_ret2
            exact ⟨by first | rfl | (simp [errW_none, errW_some] <;> rfl) | (simp [*, errW_none, errW_some] <;> rfl), bel_⟩
          rw [if_neg c12] at H
          exact absurd H (by simp)
        rw [if_neg c11] at H
        exact absurd H (by simp)
      rw [if_neg c9] at H
      exact absurd H (by simp)
    rw [if_neg c7] at H
    exact absurd H (by simp)
  rw [if_neg c3] at H
  have c3b0 : (t209 == 0) = false := beq_eq_false_iff_ne.mpr c3
  have c3b1 : (t209 != 0) = true := bne_iff_ne.mpr c3
  simp only [Option.some.injEq, Prod.mk.injEq] at H
  obtain ⟨rfl, rfl⟩ := H
  go_enter Try.func21, Try.ntmps21
  go_wp2_with (first | ((with_reducible refine gate_dst (N := 1) rfl ?_); refine bx_ (N := 1) (cs := #[.int .u8 a0_0, .int .u16 a0_1, .int .u32 a0_2, .int .u32 a0_3, .string a0_4]) (t := 37) ?_; intro gb208 hg w23 hbox hb; have BK208 := Aside0.mk (hbox); have GW208 := ge_ hg; have GE208 := ge_ hg; replace HB := hb_ hb; clear hb hbox hg; obtain ⟨hcz24_0, hcz24_1, hcz24_2, hcz24_3, hcz24_4⟩ := cl5_ BK208; obtain ⟨hfz24_0, hfz24_1, hfz24_2, hfz24_3, hfz24_4⟩ := fz5_ BK208) | ((with_reducible refine gate_callee (f := 31) rfl ?_); refine gl_ (some 8) Try.func31 #[.agg #[.int .u8 a0_0, .int .u16 a0_1, .int .u32 a0_2, .int .u32 a0_3, .string a0_4]] ?_; (with_reducible refine (inode_Check.calls a0_0 a0_1 a0_2 a0_3 a0_4 t209 _ A2.out).mono ?_); rintro e w25 ⟨rfl, hb⟩; refine ⟨_, rfl, ?_⟩; replace BK208 := kb_ BK208 hb; replace HB := hb_ hb; (try clear hb); (try clear hb2); (try clear hk); (try clear hi)))
  go_ret2
  exact ⟨by first | rfl | (simp [errW_none, errW_some] <;> rfl) | (simp [*, errW_none, errW_some] <;> rfl), bel_⟩

end Go.Proofs.Ytpnmajblhgnkoaa.Z
end

section
/- What numbers', texts', inodes' and keys' functions come to. -/
namespace Go.Proofs.Ytpnmajblhgnkoaa.Z
open Go.RowKit Go.Proofs.YtpnmajblhgnkoaaW.PrintWords Go.Proofs.YtpnmajblhgnkoaaW.PrintLast Go.Proofs.YtpnmajblhgnkoaaW.PrintMore Go.Proofs.Ytpnmajblhgnkoaa.PM
set_option linter.unusedVariables false
/-! ### Numbers -/
theorem bitLenAux_le : ∀ (f m x : Nat), x < 2 ^ m → Lib.bitLenAux f x ≤ m
  | 0, m, x, h => by simp [Lib.bitLenAux]
  | f + 1, m, x, h => by
    unfold Lib.bitLenAux
    by_cases h0 : x = 0
    · rw [if_pos h0]; omega
    · rw [if_neg h0]
      match m, h with
      | 0, h => simp at h; omega
      | m + 1, h =>
        have := bitLenAux_le f m (x / 2) (by rw [Nat.pow_succ] at h; omega)
        omega
theorem pow_two (w : Nat) : 256 ^ w = 2 ^ (8 * w) := by rw [Nat.pow_mul]
theorem nums_be : ∀ (l : List UInt8), strOfNums (l.map (fun b => (b.toNat : Int))) = ba l := by
  intro l
  unfold strOfNums ba
  rw [List.map_map]
  congr 2
  conv => rhs; rw [← List.map_id l]
  apply List.map_congr_left
  intro b _
  simp
def beI (w n : Nat) : List Int := (be w n).map (fun b => (b.toNat : Int))
theorem set_mid (a b : List Int) (x v : Int) {n : Nat} (h : a.length = n) : (a ++ x :: b).set n v = a ++ v :: b := by subst h; simp
theorem pow_cast (m : Nat) : ((2 : Int) ^ m) = ((2 ^ m : Nat) : Int) := by simp
theorem u64w {x : Int} (h0 : 0 ≤ x) (h1 : x < 18446744073709551616) : IntKind.u64.wrap x = x := IntWalk.u64_in x ⟨h0, by omega⟩
theorem number_l0 (n w : Nat) (hw : w ≤ 8) : ∀ d i : Nat, w = i + d →
    Ev (fun k => pack_Number.l0 k (n : Int) (w : Int) (List.replicate d 0 ++ beI i n) (w : Int) (i : Int)) (ba (be w n), 0)
  | 0, i, hi => by
    refine Ev.step (fun k => by rw [pack_Number.l0]) ?_
    refine Ev.ifn (by omega) (Ev.const ?_)
    obtain rfl : w = i := by omega
    rw [List.replicate_zero, List.nil_append]
    unfold beI
    rw [nums_be]
  | d + 1, i, hi => by
    refine Ev.step (fun k => by rw [pack_Number.l0]) ?_
    have e1 : wrap64 (8 * (i : Int)) = ((8 * i : Nat) : Int) := by rw [w64 (by omega) (by omega)]; omega
    have e2 : wrap64 (wrap64 ((w : Int) - 1) - (i : Int)) = (d : Int) := by rw [w64 (i := (w : Int) - 1) (by omega) (by omega), w64 (by omega) (by omega)]; omega
    have e3 : wrap64 ((i : Int) + 1) = ((i + 1 : Nat) : Int) := by rw [w64 (by omega) (by omega)]; omega
    have hl : (List.replicate (d + 1) (0 : Int) ++ beI i n).length = w := by unfold beI; rw [List.length_append, List.length_replicate, List.length_map, be_len]; omega
    rw [e1, e2, e3]
    refine Ev.ifp (by omega) (Ev.ifp (by omega) (Ev.ifp (by omega) (Ev.ifp (by rw [hl]; omega) ?_)))
    refine Ev.congr (fun k => ?_) (number_l0 n w hw d (i + 1) (by omega))
    have e4 : shr .u64 (n : Int) ((8 * i : Nat) : Int) % 256 = ((n / 256 ^ i % 256 : Nat) : Int) := by
      unfold shr
      rw [Int.toNat_natCast, show IntKind.u64.bits = 64 from rfl, Nat.min_eq_left (by omega), pow_cast, pow_two]
      simp
    have e5 : (List.replicate (d + 1) (0 : Int) ++ beI i n).set ((d : Int)).toNat (((n / 256 ^ i % 256 : Nat) : Int)) = List.replicate d 0 ++ beI (i + 1) n := by
      rw [Int.toNat_natCast, List.replicate_succ', List.append_assoc, List.singleton_append, set_mid _ _ _ _ (by simp)]
      congr 1
      unfold beI
      rw [be_cons, List.map_cons, ofNat_toNat]
    rw [e4, e5]
theorem number_f (n w : Nat) (h1 : 1 ≤ w) (h8 : w ≤ 8) (hn : n < 256 ^ w) : Ev (fun k => pack_Number.f k (n : Int) (w : Int)) (ba (be w n), 0) := by
  unfold pack_Number.f
  have hp : 256 ^ w ≤ 256 ^ 8 := Nat.pow_le_pow_right (by decide) h8
  have hn8 : n < 18446744073709551616 := by have : 256 ^ 8 = 18446744073709551616 := rfl; omega
  have hb : bits_Len64.f (n : Int) = some ((Lib.bitLen n : Nat) : Int) := by
    unfold bits_Len64.f
    rw [if_pos ⟨by omega, by omega⟩, Int.toNat_natCast]
  have hl : Lib.bitLen n ≤ 8 * w := bitLenAux_le 64 (8 * w) n (by rw [← pow_two]; exact hn)
  refine Ev.ifn (by omega) (Ev.ifn (by omega) (Ev.bindc hb ?_))
  have e : decide (((Lib.bitLen n : Nat) : Int) > wrap64 (8 * (w : Int))) = false := by
    rw [w64 (by omega) (by omega)]; simp; omega
  rw [e]
  refine Ev.step (fun k => by rw [pack_Number.j0]) ?_
  refine Ev.ifn (by decide) (Ev.ifp (by omega) (Ev.ifp (by rw [Int.toNat_natCast]; omega) (Ev.bindc rfl ?_)))
  have h := number_l0 n w h8 w 0 (by omega)
  rw [show beI 0 n = [] from rfl, List.append_nil] at h
  rw [Int.toNat_natCast, List.length_replicate]
  exact h
theorem num_f (n : Int) (w : Nat) (h1 : 1 ≤ w) (h8 : w ≤ 8) (h0 : 0 ≤ n) (hn : n.toNat < 256 ^ w) : Ev (fun k => inode_number.f k (IntKind.u64.wrap n) (w : Int)) (ba (be w n.toNat)) := by
  unfold inode_number.f
  have hp : 256 ^ w ≤ 256 ^ 8 := Nat.pow_le_pow_right (by decide) h8
  have p8 : 256 ^ 8 = 18446744073709551616 := rfl
  rw [u64w h0 (by omega)]
  have e : n = ((n.toNat : Nat) : Int) := by omega
  have h := number_f n.toNat w h1 h8 hn
  rw [← e] at h
  exact Ev.bind h (Ev.const rfl)
/-! ### Numbers from bytes -/
/-- So many bytes from the front: their number, what is left, whether they were there. -/
def takeS (w : Nat) (l : List UInt8) : Int × List UInt8 × Int := (if l.length < w then 0 else (num (l.take w) : Int), l.drop w, if l.length < w then 3 else 0)
def ba3 (x : Int × List UInt8 × Int) : Int × ByteArray × Int := (x.1, ba x.2.1, x.2.2)
theorem or_num (x : Nat) (b : Int) (hx : x < 72057594037927936) (h0 : 0 ≤ b) (h1 : b < 256) : Go.bits .or .u64 (IntKind.u64.wrap ((x : Int) * 256)) (IntKind.u64.wrap b) = ((x : Nat) : Int) * 256 + b := by
  rw [u64w (by omega) (by omega), u64w (by omega) (by omega)]
  exact bits_join .u64 64 (by decide) (fun n h0 h1 => u64w h0 (by simpa using h1)) 8 _ _ (by omega) (by omega) (by simp; omega) h0 (by simpa using h1) (by simp; omega)
theorem drop_nil_of {l : List UInt8} {w : Nat} (h : l.length < w) : l.drop w = [] := List.drop_eq_nil_of_le (by omega)
theorem take_num_snoc (l : List UInt8) (i : Nat) (h : i < l.length) : num (l.take (i + 1)) = num (l.take i) * 256 + (l[i]).toNat := by
  rw [List.take_succ_eq_append_getElem h, num_snoc]
theorem ext_end (a : ByteArray) (n : Nat) : a.extract n a.size = ba (a.data.toList.drop n) := by
  have hz := size_len a
  rw [Lib.extract_eq, List.take_of_length_le (by rw [List.length_drop]; omega)]
  rfl
theorem ext_front (a : ByteArray) (n : Nat) : a.extract 0 n = ba (a.data.toList.take n) := by
  rw [Lib.extract_eq]
  rfl
theorem tnum_l0 (a : ByteArray) (w : Nat) (hw : w ≤ 8) (hl : w ≤ a.data.toList.length) : ∀ d i : Nat, w = i + d →
    Ev (fun k => pack_TakeNumber.l0 k a (w : Int) (num (a.data.toList.take i) : Int) (w : Int) (i : Int)) ((num (a.data.toList.take w) : Int), ba (a.data.toList.drop w), 0)
  | 0, i, hi => by
    refine Ev.step (fun k => by rw [pack_TakeNumber.l0]) ?_
    have hz := size_len a
    obtain rfl : w = i := by omega
    refine Ev.ifn (by omega) (Ev.ifp (by omega) (Ev.ifp (by omega) (Ev.const ?_)))
    rw [Int.toNat_natCast, ext_end]
  | d + 1, i, hi => by
    refine Ev.step (fun k => by rw [pack_TakeNumber.l0]) ?_
    have hz := size_len a
    have hlt : i < a.data.toList.length := by omega
    have e3 : wrap64 ((i : Int) + 1) = ((i + 1 : Nat) : Int) := by rw [w64 (by omega) (by omega)]; omega
    have hn := num_lt i (a.data.toList.take i) (by rw [List.length_take]; omega)
    have hp : 256 ^ i ≤ 256 ^ 7 := Nat.pow_le_pow_right (by decide) (by omega)
    have p7 : 256 ^ 7 = 72057594037927936 := rfl
    have hb := (a.data.toList[i]).toNat_lt
    refine Ev.ifp (by omega) (Ev.ifp (by omega) (Ev.ifp (by omega) ?_))
    rw [bt_get a i hlt, or_num _ _ (by omega) (by omega) (by omega), e3]
    have ih := tnum_l0 a w hw hl d (i + 1) (by omega)
    rw [take_num_snoc _ _ hlt] at ih
    refine Ev.congr (fun k => ?_) ih
    congr 1
theorem tnum_f (a : ByteArray) (w : Nat) (h1 : 1 ≤ w) (h8 : w ≤ 8) : Ev (fun k => pack_TakeNumber.f k a (w : Int)) (ba3 (takeS w a.data.toList)) := by
  unfold pack_TakeNumber.f
  have hz := size_len a
  refine Ev.ifn (by omega) ?_
  rw [show decide ((w : Int) > 8) = false by simp; omega]
  refine Ev.step (fun k => by rw [pack_TakeNumber.j0]) ?_
  refine Ev.ifn (by decide) ?_
  by_cases h : a.data.toList.length < w
  · refine Ev.ifp (by omega) (Ev.const ?_)
    unfold ba3 takeS
    rw [if_pos h, if_pos h, drop_nil_of h]
    rfl
  · refine Ev.ifn (by omega) ?_
    refine Ev.val (tnum_l0 a w h8 (by omega) w 0 (by omega)) ?_
    unfold ba3 takeS
    rw [if_neg h, if_neg h]
theorem tknum_f (a : ByteArray) (bad : Bool) (w : Nat) (h1 : 1 ≤ w) (h8 : w ≤ 8) :
    Ev (fun k => inode_taker_number.f k a bad (w : Int)) ((takeS w a.data.toList).1, ba (a.data.toList.drop w), bad || decide (a.data.toList.length < w)) := by
  unfold inode_taker_number.f
  refine Ev.bind (tnum_f a w h1 h8) ?_
  unfold ba3 takeS
  cases bad
  · refine Ev.ifn (by decide) (Ev.const ?_)
    by_cases h : a.data.toList.length < w
    · simp only [if_pos h, decide_eq_true h]; rfl
    · simp only [if_neg h, decide_eq_false h]; rfl
  · exact Ev.ifp rfl (Ev.const (by simp))
/-- A text from the front. -/
def textS (l : List UInt8) : List UInt8 × List UInt8 × Int :=
  if l.length < 2 then ([], [], 3) else if (l.drop 2).length < num (l.take 2) then ([], [], 3) else ((l.drop 2).take (num (l.take 2)), (l.drop 2).drop (num (l.take 2)), 0)
theorem ttext_f (a : ByteArray) (hs : a.size ≤ 9223372036854775807) : Ev (fun k => pack_TakeText.f k a) (ba (textS a.data.toList).1, ba (textS a.data.toList).2.1, (textS a.data.toList).2.2) := by
  unfold pack_TakeText.f
  have hz := size_len a
  refine Ev.bind (tnum_f a 2 (by decide) (by decide)) ?_
  unfold ba3 takeS textS
  by_cases h : a.data.toList.length < 2
  · simp only [if_pos h]
    refine Ev.ifn (by decide) (Ev.step (fun k => by rw [pack_TakeText.j0]) ?_)
    exact Ev.ifn (by decide) (Ev.ifn (by decide) (Ev.const rfl))
  · simp only [if_neg h]
    refine Ev.ifp trivial ?_
    have hd : (a.data.toList.drop 2).length = a.data.toList.length - 2 := by simp
    rw [ba_size, u64w (by omega) (by omega)]
    by_cases hn : (a.data.toList.drop 2).length < num (a.data.toList.take 2)
    · rw [show decide (((num (a.data.toList.take 2) : Nat) : Int) > ((a.data.toList.drop 2).length : Int)) = true by simp only [decide_eq_true_eq]; omega, if_pos hn]
      refine Ev.step (fun k => by rw [pack_TakeText.j0]) ?_
      exact Ev.ifp rfl (Ev.const rfl)
    · rw [show decide (((num (a.data.toList.take 2) : Nat) : Int) > ((a.data.toList.drop 2).length : Int)) = false by simp only [decide_eq_false_iff_not]; omega, if_neg hn]
      refine Ev.step (fun k => by rw [pack_TakeText.j0]) ?_
      refine Ev.ifn (by decide) (Ev.ifp rfl (Ev.ifp (by omega) (Ev.ifp (by rw [ba_size]; omega) (Ev.const ?_))))
      rw [Int.toNat_natCast, ext_end, ext_front, ba_data]
theorem text_f (a : ByteArray) (hs : a.size ≤ 65535) : Ev (fun k => pack_Text.f k a) (ba (be 2 a.data.toList.length ++ a.data.toList), 0) := by
  unfold pack_Text.f
  have hz := size_len a
  rw [u64w (by omega) (by omega), hz]
  refine Ev.bind (number_f a.data.toList.length 2 (by decide) (by decide) (by rw [p2]; omega)) (Ev.ifp rfl ?_)
  refine Ev.ifp (by rw [ba_size, be_len]; omega) (Ev.const ?_)
  rw [← ba_app, data_ba]
/-! ### Inodes -/
theorem check_f (k m l s : Int) (a : ByteArray) (hs : 0 ≤ s ∧ s < 4294967296) : inode_Check.f k m l s a = some (if okN k l s a.data.toList = true then 0 else 4) := by
  unfold inode_Check.f okN
  rw [ByteArray.toList_eq]
  have hz := size_len a
  by_cases h1 : k = 1
  · rw [if_pos h1]; subst h1
    by_cases h2 : l = 1 <;> by_cases h3 : s = 0 <;> by_cases h4 : a.data.toList = [] <;> simp [h2, h3, h4]
  · rw [if_neg h1]
    by_cases h2 : k = 2
    · rw [if_pos h2]; subst h2
      by_cases h2 : l > 0 <;> by_cases h3 : s ≤ 65536 <;> by_cases h4 : a.data.toList = [] <;> simp [h2, h3, h4]
    · rw [if_neg h2]
      by_cases h3 : k = 3
      · rw [if_pos h3]; subst h3
        by_cases h4 : l > 0
        · rw [if_pos h4]
          by_cases h5 : a.data.toList = []
          · rw [if_pos h5]; simp [h5]
          · rw [if_neg h5]
            by_cases h6 : (a.size : Int) ≤ 64
            · rw [if_pos h6]
              have hc : strings_Contains.f a ⟨#[0]⟩ = some (decide (0 ∈ a.data.toList)) := by
                unfold strings_Contains.f
                rw [dif_pos (by rfl)]
                have hi := index_mem a.data.toList 0
                exact congrArg some (by rw [Bool.eq_iff_iff]; simpa using hi)
              rw [hc, Option.bind_some, w64 (by omega) (by omega)]
              have h6' : a.data.toList.length ≤ 64 := by omega
              by_cases h7 : 0 ∈ a.data.toList
              · rw [if_pos (by simpa using h7)]; simp [h7]
              · rw [if_neg (by simpa using h7)]
                by_cases h8 : s = (a.size : Int)
                · rw [if_pos h8]
                  have h8' : s = a.data.toList.length := by omega
                  rw [if_pos (by simp only [decide_eq_true_eq]; exact .inr (.inr ⟨trivial, by omega, h5, h6', h7, h8'⟩))]
                · rw [if_neg h8, if_neg (by simp only [decide_eq_true_eq]; rintro (h | h | h); · omega
                                            · omega
                                            · exact h8 (by omega))]
            · rw [if_neg h6, if_neg (by simp only [decide_eq_true_eq]; rintro (h | h | h); · omega
                                        · omega
                                        · exact h6 (by omega))]
        · rw [if_neg h4, if_neg (by simp only [decide_eq_true_eq]; omega)]
      · rw [if_neg h3, if_neg (by simp only [decide_eq_true_eq]; omega)]
theorem okN_size {k l s : Int} {t : List UInt8} (h : okN k l s t = true) : t.length ≤ 64 := by
  unfold okN at h
  rcases of_decide_eq_true h with h | h | h
  · rw [h.2.2.2]; decide
  · rw [h.2.2.2]; decide
  · exact h.2.2.2.1
theorem encode_f (k m l s : Int) (a : ByteArray) (hk : 0 ≤ k ∧ k < 256) (hm : 0 ≤ m ∧ m < 65536) (hl : 0 ≤ l ∧ l < 4294967296) (hs : 0 ≤ s ∧ s < 4294967296) :
    Ev (fun r => inode_Encode.f r k m l s a) (ba (encS k m l s a.data.toList).1, (encS k m l s a.data.toList).2) := by
  unfold inode_Encode.f encS
  have hz := size_len a
  rw [check_f k m l s a hs]
  refine Ev.bindc rfl ?_
  by_cases h : okN k l s a.data.toList = true
  · rw [if_pos h, if_pos h]
    have h64 := okN_size h
    refine Ev.ifp rfl (Ev.bind (text_f a (by omega)) (Ev.bind (num_f k 1 (by decide) (by decide) hk.1 (by rw [p1]; omega)) (Ev.bind (num_f m 2 (by decide) (by decide) hm.1 (by rw [p2]; omega)) ?_)))
    refine Ev.ifp (by simp only [ba_size, be_len]; omega) (Ev.bind (num_f l 4 (by decide) (by decide) hl.1 (by rw [p4]; omega)) ?_)
    refine Ev.ifp (by simp only [ba_app, ba_size, List.length_append, be_len]; omega) (Ev.bind (num_f s 4 (by decide) (by decide) hs.1 (by rw [p4]; omega)) ?_)
    refine Ev.ifp (by simp only [ba_app, ba_size, List.length_append, be_len]; omega) (Ev.ifp (by simp only [ba_app, ba_size, List.length_append, be_len]; omega) (Ev.const ?_))
    unfold enc
    simp only [ba_app, List.append_assoc]
  · rw [if_neg h, if_neg h]
    exact Ev.ifn (by decide) (Ev.const rfl)
def baI (x : Ino) : Int × Int × Int × Int × ByteArray × Int := (x.1, x.2.1, x.2.2.1, x.2.2.2.1, ba x.2.2.2.2.1, x.2.2.2.2.2)
theorem u16w {x : Int} (h0 : 0 ≤ x) (h1 : x < 65536) : IntKind.u16.wrap x = x := by
  simp only [IntKind.wrap, IntKind.bits, IntKind.signed]
  simp
  omega
theorem decode_f (a : ByteArray) (hs : a.size ≤ 9223372036854775807) : Ev (fun r => inode_Decode.f r a) (baI (decS a.data.toList)) := by
  unfold inode_Decode.f
  have hz := size_len a
  have d1 : (ba (a.data.toList.drop 1)).data.toList = a.data.toList.drop 1 := ba_data _
  have d2 : (ba ((a.data.toList.drop 1).drop 2)).data.toList = d3 a.data.toList := ba_data _
  have d4 : (ba ((d3 a.data.toList).drop 4)).data.toList = d7 a.data.toList := ba_data _
  have d5 : (ba ((d7 a.data.toList).drop 4)).data.toList = d11 a.data.toList := ba_data _
  have t1 := tknum_f a false 1 (by decide) (by decide)
  have t2 := fun b => tknum_f (ba (a.data.toList.drop 1)) b 2 (by decide) (by decide)
  rw [d1] at t2
  have t3 := fun b => tknum_f (ba ((a.data.toList.drop 1).drop 2)) b 4 (by decide) (by decide)
  rw [d2] at t3
  have t4 := fun b => tknum_f (ba ((d3 a.data.toList).drop 4)) b 4 (by decide) (by decide)
  rw [d4] at t4
  have hd11 : (d11 a.data.toList).length = a.data.toList.length - 11 := by unfold d11 d7 d3; simp only [List.length_drop]; omega
  have hd7 : (d7 a.data.toList).length = a.data.toList.length - 7 := by unfold d7 d3; simp only [List.length_drop]; omega
  have hd3 : (d3 a.data.toList).length = a.data.toList.length - 3 := by unfold d3; simp only [List.length_drop]; omega
  have hd1 : (a.data.toList.drop 1).length = a.data.toList.length - 1 := by simp
  have t5 := ttext_f (ba ((d7 a.data.toList).drop 4)) (by rw [ba_size]; show (d11 a.data.toList).length ≤ _; omega)
  rw [d5] at t5
  refine Ev.bind t1 (Ev.bind (t2 _) (Ev.bind (t3 _) (Ev.bind (t4 _) ?_)))
  unfold inode_taker_text.f
  have bad : (((false || decide (a.data.toList.length < 1)) || decide ((a.data.toList.drop 1).length < 2)) || decide ((d3 a.data.toList).length < 4) || decide ((d7 a.data.toList).length < 4)) = decide (a.data.toList.length < 11) := by
    rw [Bool.eq_iff_iff]
    simp only [Bool.false_or, Bool.or_eq_true, decide_eq_true_eq, hd7, hd3, hd1]
    omega
  simp only [bad]
  have none_ : ¬ (whole a.data.toList ∧ okN (f1 a.data.toList) (f3 a.data.toList) (f4 a.data.toList) (d13 a.data.toList) = true) → baI (decS a.data.toList) = (0, 0, 0, 0, ⟨#[]⟩, 4) := by
    intro h
    unfold decS
    rw [if_neg h]
    rfl
  by_cases h11 : a.data.toList.length < 11
  · have hn := none_ (fun h => by have := h.1.1; omega)
    rw [hn]
    rw [show decide (a.data.toList.length < 11) = true by simpa using h11]
    refine Ev.bind (Ev.bind t5 (Ev.ifp rfl (Ev.const rfl))) (Ev.ifp rfl (Ev.const rfl))
  · rw [show decide (a.data.toList.length < 11) = false by simpa using h11]
    refine Ev.bind (Ev.bind t5 (Ev.ifn (by decide) (Ev.const rfl))) ?_
    unfold textS
    by_cases h2 : (d11 a.data.toList).length < 2
    · simp only [if_pos h2]
      have hn := none_ (fun h => by have := h.1.1; omega)
      rw [hn]
      exact Ev.ifp rfl (Ev.const rfl)
    · simp only [if_neg h2]
      by_cases hn : ((d11 a.data.toList).drop 2).length < num ((d11 a.data.toList).take 2)
      · simp only [if_pos hn]
        have hn := none_ (fun h => by have := h.1.2; rw [List.length_drop] at hn; omega)
        rw [hn]
        exact Ev.ifp rfl (Ev.const rfl)
      · simp only [if_neg hn]
        refine Ev.ifn (by decide) ?_
        rw [ba_toList]
        by_cases hr : ((d11 a.data.toList).drop 2).drop (num ((d11 a.data.toList).take 2)) = []
        · refine Ev.ifp hr ?_
          have hlen : ((d11 a.data.toList).drop 2).length = num ((d11 a.data.toList).take 2) := by
            have := congrArg List.length hr
            rw [List.length_drop] at this
            simp at this hn
            simp
            omega
          have hw : whole a.data.toList := by
            refine ⟨by omega, ?_⟩
            rw [List.length_drop] at hlen
            omega
          have ht : ((d11 a.data.toList).drop 2).take (num ((d11 a.data.toList).take 2)) = d13 a.data.toList := by
            rw [← hlen, List.take_length]; rfl
          obtain ⟨r1, r2, r3, r4⟩ := f_range _ hw
          have e1 : (takeS 1 a.data.toList).1 = f1 a.data.toList := by unfold takeS; rw [if_neg (by omega)]; rfl
          have e2 : (takeS 2 (a.data.toList.drop 1)).1 = f2 a.data.toList := by unfold takeS; rw [if_neg (by omega)]; rfl
          have e3 : (takeS 4 (d3 a.data.toList)).1 = f3 a.data.toList := by unfold takeS; rw [if_neg (by omega)]; rfl
          have e4 : (takeS 4 (d7 a.data.toList)).1 = f4 a.data.toList := by unfold takeS; rw [if_neg (by omega)]; rfl
          rw [e1, e2, e3, e4, ht, u16w r2.1 r2.2, Int.emod_eq_of_lt r1.1 r1.2, Int.emod_eq_of_lt r3.1 r3.2, Int.emod_eq_of_lt r4.1 r4.2]
          refine Ev.bindc (check_f _ _ _ _ _ r4) ?_
          rw [ba_data]
          by_cases hok : okN (f1 a.data.toList) (f3 a.data.toList) (f4 a.data.toList) (d13 a.data.toList) = true
          · rw [if_pos hok]
            refine Ev.ifp rfl (Ev.const ?_)
            unfold decS
            rw [if_pos ⟨hw, hok⟩]
            rfl
          · rw [if_neg hok, none_ (fun h => hok h.2)]
            exact Ev.ifn (by decide) (Ev.const rfl)
        · rw [none_ (fun h => hr (List.drop_eq_nil_of_le (by have := h.1.2; rw [List.length_drop]; omega)))]
          exact Ev.ifn hr (Ev.const rfl)
end Go.Proofs.Ytpnmajblhgnkoaa.Z
end

section
/- What the functions on keys come to. -/
namespace Go.Proofs.Ytpnmajblhgnkoaa.Z
open Go.RowKit Go.Proofs.YtpnmajblhgnkoaaW.PrintWords Go.Proofs.YtpnmajblhgnkoaaW.PrintLast Go.Proofs.YtpnmajblhgnkoaaW.PrintMore Go.Proofs.Ytpnmajblhgnkoaa.PM
set_option linter.unusedVariables false
theorem right_jt (x3 : Bool) (x8 : Int) (y0 y1 : Int) (a : ByteArray) (c : Int) : Ev (fun r => inode_right.j0 r x3 x8 true y0 y1 a c) (x3 && (nameL a.data.toList && c == 0)) := by
  refine Ev.step (fun k => by rw [inode_right.j0]) ?_
  refine Ev.ifp rfl ?_
  cases x3
  · exact Ev.ifn (by decide) (Ev.const rfl)
  · refine Ev.ifp rfl (Ev.bindc (name_f a) ?_)
    by_cases hn : nameL a.data.toList = true
    · exact Ev.ifp hn (Ev.const (by simp [hn]))
    · exact Ev.ifn hn (Ev.const (by simp [hn]))
theorem right_j3 (x3 : Bool) (y0 y1 : Int) (a : ByteArray) (c : Int) : Ev (fun r => inode_right.j0 r x3 3 false y0 y1 a c) (x3 && (decide (a.data.toList = []) && decide (c < 512))) := by
  refine Ev.step (fun k => by rw [inode_right.j0]) ?_
  refine Ev.ifn (by decide) (Ev.ifp rfl ?_)
  cases x3
  · exact Ev.ifn (by decide) (Ev.const rfl)
  · refine Ev.ifp rfl ?_
    rw [ByteArray.toList_eq]
    by_cases hn : a.data.toList = []
    · exact Ev.ifp hn (Ev.const (by simp [hn]))
    · exact Ev.ifn hn (Ev.const (by simp [hn]))
theorem right_jn (x3 : Bool) (x8 : Int) (h8 : ¬ x8 = 3) (y0 y1 : Int) (a : ByteArray) (c : Int) : Ev (fun r => inode_right.j0 r x3 x8 false y0 y1 a c) false := by
  refine Ev.step (fun k => by rw [inode_right.j0]) ?_
  exact Ev.ifn (by decide) (Ev.ifn h8 (Ev.const rfl))
theorem right_f (k i : Int) (a : ByteArray) (c : Int) : Ev (fun r => inode_right.f r k i a c) (rightK k i a.data.toList c) := by
  unfold inode_right.f
  have key : ∀ b : Bool, (b = true ↔ (0 < i ∧ (k = 1 ∧ a.data.toList = [] ∧ c = 0 ∨ (k = 2 ∨ k = 4) ∧ nameL a.data.toList = true ∧ c = 0 ∨ k = 3 ∧ a.data.toList = [] ∧ c < 512))) → b = rightK k i a.data.toList c := fun b h => by
    unfold rightK
    rw [Bool.eq_iff_iff, h, decide_eq_true_eq]
  by_cases h1 : k = 1
  · refine Ev.ifp h1 ?_
    subst h1
    by_cases hi : i > 0
    · refine Ev.ifp hi ?_
      rw [ByteArray.toList_eq]
      by_cases hn : a.data.toList = []
      · refine Ev.ifp hn (Ev.const (congrArg some (key _ ?_)))
        rw [beq_iff_eq]
        exact ⟨fun h => ⟨hi, .inl ⟨rfl, hn, h⟩⟩, fun h => by omega⟩
      · refine Ev.ifn hn (Ev.const (congrArg some (key _ ?_)))
        refine ⟨fun h => absurd h (by decide), fun h => ?_⟩
        rcases h.2 with h | h | h
        · exact absurd h.2.1 hn
        · omega
        · omega
    · refine Ev.ifn hi (Ev.const (congrArg some (key _ ?_)))
      exact ⟨fun h => absurd h (by decide), fun h => absurd h.1 hi⟩
  · refine Ev.ifn h1 ?_
    by_cases h2 : k = 2
    · refine Ev.ifp h2 ?_
      subst h2
      refine Ev.val (right_jt _ _ _ _ _ _) (key _ ?_)
      simp only [decide_eq_true_eq, Bool.and_eq_true, beq_iff_eq]
      refine ⟨fun h => ⟨h.1, .inr (.inl ⟨.inl trivial, h.2.1, h.2.2⟩)⟩, fun h => ⟨h.1, ?_⟩⟩
      rcases h.2 with h | h | h
      · omega
      · exact h.2
      · omega
    · refine Ev.ifn h2 ?_
      by_cases h4 : k = 4
      · subst h4
        refine Ev.val (right_jt _ _ _ _ _ _) (key _ ?_)
        simp only [decide_eq_true_eq, Bool.and_eq_true, beq_iff_eq]
        refine ⟨fun h => ⟨h.1, .inr (.inl ⟨.inr trivial, h.2.1, h.2.2⟩)⟩, fun h => ⟨h.1, ?_⟩⟩
        rcases h.2 with h | h | h
        · omega
        · exact h.2
        · omega
      · rw [show (k == 4) = false by simpa using h4]
        by_cases h3 : k = 3
        · subst h3
          refine Ev.val (right_j3 _ _ _ _ _) (key _ ?_)
          simp only [decide_eq_true_eq, Bool.and_eq_true]
          refine ⟨fun h => ⟨h.1, .inr (.inr ⟨trivial, h.2.1, h.2.2⟩)⟩, fun h => ⟨h.1, ?_⟩⟩
          rcases h.2 with h | h | h
          · omega
          · omega
          · exact h.2
        · refine Ev.val (right_jn _ _ h3 _ _ _ _) (key _ ?_)
          exact ⟨fun h => absurd h (by decide), fun h => by omega⟩
theorem letterOf_lett (k : Int) : (letterOf k = 0 ↔ lett k = []) ∧ letterB k = ba (lett k) := by
  unfold letterOf lett letterB
  by_cases h1 : k = 1
  · subst h1; exact ⟨by decide, rfl⟩
  · rw [if_neg h1, if_neg h1, if_neg h1]
    by_cases h2 : k = 2
    · subst h2; exact ⟨by decide, rfl⟩
    · rw [if_neg h2, if_neg h2, if_neg h2]
      by_cases h3 : k = 3
      · subst h3; exact ⟨by decide, rfl⟩
      · rw [if_neg h3, if_neg h3, if_neg h3]
        by_cases h4 : k = 4
        · subst h4; exact ⟨by decide, rfl⟩
        · rw [if_neg h4, if_neg h4, if_neg h4]
          exact ⟨by simp, rfl⟩
theorem prefix_f (k i : Int) (hk : 0 ≤ k) (hi : 0 ≤ i ∧ i < 4294967296) : Ev (fun r => inode_Prefix.f r k i) (ba (prefL k i)) := by
  unfold inode_Prefix.f prefL
  obtain ⟨h1, h2⟩ := letterOf_lett k
  refine Ev.ifp hk ?_
  by_cases h : letterOf k = 0
  · rw [if_pos (h1.1 h)]
    exact Ev.ifp h (Ev.const rfl)
  · rw [if_neg (fun e => h (h1.2 e))]
    refine Ev.ifn h (Ev.bind (num_f i 4 (by decide) (by decide) hi.1 (by rw [p4]; omega)) (Ev.ifp (by rw [ba_size, be_len]; omega) (Ev.const ?_)))
    rw [h2, ba_app]
theorem rightK_size {k i : Int} {nm : List UInt8} {c : Int} (h : rightK k i nm c = true) : nm.length ≤ 24 ∧ c < 512 := by
  unfold rightK at h
  rcases (of_decide_eq_true h).2 with h1 | h1 | h1
  · rw [h1.2.1]; exact ⟨by decide, by omega⟩
  · exact ⟨(nameL_iff.1 h1.2.1).2.1, by omega⟩
  · rw [h1.2.1]; exact ⟨by decide, by omega⟩
theorem key_f (k i : Int) (a : ByteArray) (c : Int) (hk : 0 ≤ k) (hi : 0 ≤ i ∧ i < 4294967296) (hc : 0 ≤ c) :
    Ev (fun r => inode_Key.f r k i a c) (ba (keyS k i a.data.toList c).1, (keyS k i a.data.toList c).2) := by
  unfold inode_Key.f keyS
  have hz := size_len a
  refine Ev.bind (right_f k i a c) ?_
  by_cases h : rightK k i a.data.toList c = true
  · rw [if_pos h]
    have hl := prefL_len (i := i) (lett_ne h)
    obtain ⟨hn, hc2⟩ := rightK_size h
    refine Ev.ifp h (Ev.bind (prefix_f k i hk hi) ?_)
    unfold keyL
    by_cases h3 : k = 3
    · rw [if_pos h3]
      refine Ev.ifp h3 (Ev.bind (num_f c 4 (by decide) (by decide) hc (by rw [p4]; omega)) (Ev.ifp (by rw [ba_size, ba_size, be_len]; omega) (Ev.const ?_)))
      rw [ba_app]
    · rw [if_neg h3]
      refine Ev.ifn h3 (Ev.ifp (by rw [ba_size]; omega) (Ev.const ?_))
      rw [← ba_app, data_ba]
  · rw [if_neg h]
    exact Ev.ifn h (Ev.const rfl)
/-! ### Parse -/
def baK (x : KeyT) : Int × Int × ByteArray × Int × Int := (x.1, x.2.1, ba x.2.2.1, x.2.2.2.1, x.2.2.2.2)
theorem parse_round (a : ByteArray) (x d c1 c2 c3 c4 K : Int) (hx : 0 ≤ x ∧ x < 5) (hs : 0 < a.size) (hd : d = 0 ∨ d = 1 ∧ c1 = 105 ∧ c2 = 100 ∧ c3 = 99 ∧ c4 = 120) {r : Int × Int × ByteArray × Int × Int}
    (h : Ev (fun k => inode_Parse.l0 k a (x + 1) 1 0 0 0 105 100 99 120 (if letterOf x = bt a 0 then x else K) 0 ⟨#[]⟩ 0) r) :
    Ev (fun k => inode_Parse.l0 k a x d 0 0 0 c1 c2 c3 c4 K 0 ⟨#[]⟩ 0) r := by
  refine Ev.step (fun k => by rw [inode_Parse.l0]) ?_
  have hf : inode_letters_letter.f d 0 0 0 c1 c2 c3 c4 x = some (letterOf x, 1, 0, 0, 0, 105, 100, 99, 120) := by
    unfold inode_letters_letter.f
    rw [if_pos ⟨hx.1, rfl, rfl, hd⟩]
  have he : (x + 1) % 256 = x + 1 := by omega
  refine Ev.ifp hx.2 (Ev.bindc hf (Ev.ifp (by omega) ?_))
  rw [he]
  by_cases hb : letterOf x = bt a 0
  · rw [if_pos hb] at h
    exact Ev.ifp hb h
  · rw [if_neg hb] at h
    exact Ev.ifn hb h
theorem parse_end (a : ByteArray) (K d c1 c2 c3 c4 : Int) (hK : K = g1 a.data.toList) (h5 : ¬ a.data.toList.length < 5) :
    Ev (fun k => inode_Parse.l0 k a 5 d 0 0 0 c1 c2 c3 c4 K 0 ⟨#[]⟩ 0) (baK (parsS a.data.toList)) := by
  refine Ev.step (fun k => by rw [inode_Parse.l0]) ?_
  have hz := size_len a
  have hr := g2_range h5
  have t1 := tknum_f (a.extract 1 a.size) false 4 (by decide) (by decide)
  have e0 : (a.extract 1 a.size).data.toList = a.data.toList.drop 1 := by rw [ext_end, ba_data]
  rw [e0] at t1
  have el : (a.data.toList.drop 1).length = a.data.toList.length - 1 := by simp
  have e1 : (takeS 4 (a.data.toList.drop 1)).1 = g2 a.data.toList := by unfold takeS; rw [if_neg (by omega)]; rfl
  have e2 : (false || decide ((a.data.toList.drop 1).length < 4)) = false := by simp only [Bool.false_or, decide_eq_false_iff_not]; omega
  rw [e1, e2] at t1
  refine Ev.ifn (by omega) (Ev.ifp (by omega) (Ev.bind t1 ?_))
  rw [Int.emod_eq_of_lt hr.1 hr.2]
  have e5 : (a.data.toList.drop 1).drop 4 = r5 a.data.toList := rfl
  simp only [e5]
  have ez : baK (0, 0, [], 0, 4) = (0, 0, ⟨#[]⟩, 0, 4) := rfl
  have lk : 0 ≤ g1 a.data.toList := by unfold g1 kindOf; repeat' split <;> omega
  by_cases h3 : K = 3
  · refine Ev.ifp h3 ?_
    have t2 := tknum_f (ba (r5 a.data.toList)) false 4 (by decide) (by decide)
    rw [ba_data] at t2
    refine Ev.bind t2 ?_
    have hg3 : g1 a.data.toList = 3 := by omega
    have hw := key_whole h5 (by rw [hg3]; decide)
    simp only [Bool.false_or]
    have hn0 : 0 ≤ (takeS 4 (r5 a.data.toList)).1 ∧ (takeS 4 (r5 a.data.toList)).1 < 4294967296 := by
      unfold takeS
      by_cases h4 : (r5 a.data.toList).length < 4
      · simp only [if_pos h4]; omega
      · simp only [if_neg h4]
        have := num_lt 4 ((r5 a.data.toList).take 4) (by rw [List.length_take]; omega)
        rw [p4] at this
        omega
    have bad : ¬ ((r5 a.data.toList).length = 4 ∧ rightK 3 (g2 a.data.toList) [] (num (r5 a.data.toList)) = true) → baK (parsS a.data.toList) = (0, 0, (⟨#[]⟩ : ByteArray), 0, 4) := by
      intro h
      unfold parsS
      rw [if_neg h5, if_pos hg3, if_neg h]
      rfl
    have good : (r5 a.data.toList).length = 4 ∧ rightK 3 (g2 a.data.toList) [] (num (r5 a.data.toList)) = true → baK (parsS a.data.toList) = (3, g2 a.data.toList, (⟨#[]⟩ : ByteArray), (num (r5 a.data.toList) : Int), 0) := by
      intro h
      unfold parsS
      rw [if_neg h5, if_pos hg3, if_pos h]
      rfl
    rw [Int.emod_eq_of_lt hn0.1 hn0.2]
    refine Ev.bind (key_f K (g2 a.data.toList) ⟨#[]⟩ _ (by omega) hr hn0.1) ?_
    by_cases h4 : (r5 a.data.toList).length < 4
    · rw [bad (fun h => by have := h.1; omega)]
      exact Ev.ifp (by simpa using h4) (Ev.const rfl)
    · refine Ev.ifn (by simpa using h4) ?_
      have en : (takeS 4 (r5 a.data.toList)).1 = (num ((r5 a.data.toList).take 4) : Int) := by unfold takeS; rw [if_neg h4]
      rw [en, h3]
      have e0 : (⟨#[]⟩ : ByteArray).data.toList = [] := rfl
      rw [e0]
      by_cases hok : rightK 3 (g2 a.data.toList) [] (num ((r5 a.data.toList).take 4)) = true
      · have hk : keyS 3 (g2 a.data.toList) [] (num ((r5 a.data.toList).take 4)) = (keyL 3 (g2 a.data.toList) [] (num ((r5 a.data.toList).take 4)), 0) := by unfold keyS; rw [if_pos hok]
        rw [hk]
        refine Ev.ifp rfl ?_
        have ek : (ba (keyL 3 (g2 a.data.toList) [] (num ((r5 a.data.toList).take 4)))).toList = prefL 3 (g2 a.data.toList) ++ (r5 a.data.toList).take 4 := by
          rw [ba_toList]
          unfold keyL
          rw [if_pos rfl, Int.toNat_natCast, be_num 4 _ (by rw [List.length_take]; omega)]
        have ea : a.toList = prefL 3 (g2 a.data.toList) ++ r5 a.data.toList := by rw [ByteArray.toList_eq, ← hg3, hw]
        by_cases h44 : (r5 a.data.toList).length = 4
        · have et : (r5 a.data.toList).take 4 = r5 a.data.toList := List.take_of_length_le (by omega)
          rw [et] at hok ek ⊢
          rw [good ⟨h44, hok⟩]
          exact Ev.ifp (by rw [ek, ea]) (Ev.const rfl)
        · rw [bad (fun h => h44 h.1)]
          refine Ev.ifn (fun h => ?_) (Ev.const rfl)
          have h := h
          simp only at h
          rw [ek, ea] at h
          have := congrArg List.length (List.append_cancel_left h)
          rw [List.length_take] at this
          omega
      · have hk : keyS 3 (g2 a.data.toList) [] (num ((r5 a.data.toList).take 4)) = ([], 4) := by unfold keyS; rw [if_neg hok]
        rw [hk, bad (fun h => by rw [List.take_of_length_le (by omega)] at hok; exact hok h.2)]
        exact Ev.ifn (by decide) (Ev.const rfl)
  · refine Ev.ifn h3 ?_
    have hg3 : ¬ g1 a.data.toList = 3 := by omega
    have hk := key_f K (g2 a.data.toList) (ba (r5 a.data.toList)) 0 (by omega) hr (by omega)
    rw [ba_data] at hk
    refine Ev.bind hk (Ev.ifn (by decide) ?_)
    rw [hK]
    by_cases hok : rightK (g1 a.data.toList) (g2 a.data.toList) (r5 a.data.toList) 0 = true
    · have hp : parsS a.data.toList = (g1 a.data.toList, g2 a.data.toList, r5 a.data.toList, 0, 0) := by unfold parsS; rw [if_neg h5, if_neg hg3, if_pos hok]
      have hk : keyS (g1 a.data.toList) (g2 a.data.toList) (r5 a.data.toList) 0 = (keyL (g1 a.data.toList) (g2 a.data.toList) (r5 a.data.toList) 0, 0) := by unfold keyS; rw [if_pos hok]
      rw [hp, hk]
      refine Ev.ifp rfl (Ev.ifp ?_ (Ev.const rfl))
      rw [ba_toList]
      unfold keyL
      rw [if_neg hg3, key_whole h5 (right_kind hok), ByteArray.toList_eq]
    · have hp : parsS a.data.toList = (0, 0, [], 0, 4) := by unfold parsS; rw [if_neg h5, if_neg hg3, if_neg hok]
      have hk : keyS (g1 a.data.toList) (g2 a.data.toList) (r5 a.data.toList) 0 = ([], 4) := by unfold keyS; rw [if_neg hok]
      rw [hp, hk]
      exact Ev.ifn (by decide) (Ev.const rfl)
theorem parse_f (a : ByteArray) (hs : a.size ≤ 9223372036854775807) : Ev (fun k => inode_Parse.f k a) (baK (parsS a.data.toList)) := by
  unfold inode_Parse.f
  have hz := size_len a
  by_cases h5 : a.data.toList.length < 5
  · refine Ev.ifp (by omega) (Ev.const ?_)
    unfold parsS
    rw [if_pos h5]
    rfl
  · refine Ev.ifn (by omega) ?_
    have hd : ∀ d c1 c2 c3 c4 : Int, d = 1 ∧ c1 = 105 ∧ c2 = 100 ∧ c3 = 99 ∧ c4 = 120 → (d = 0 ∨ d = 1 ∧ c1 = 105 ∧ c2 = 100 ∧ c3 = 99 ∧ c4 = 120) := fun _ _ _ _ _ h => .inr h
    refine parse_round a 1 0 0 0 0 0 0 (by decide) (by omega) (.inl rfl) ?_
    refine parse_round a (1 + 1) 1 105 100 99 120 _ (by decide) (by omega) (hd _ _ _ _ _ ⟨rfl, rfl, rfl, rfl, rfl⟩) ?_
    refine parse_round a (1 + 1 + 1) 1 105 100 99 120 _ (by decide) (by omega) (hd _ _ _ _ _ ⟨rfl, rfl, rfl, rfl, rfl⟩) ?_
    refine parse_round a (1 + 1 + 1 + 1) 1 105 100 99 120 _ (by decide) (by omega) (hd _ _ _ _ _ ⟨rfl, rfl, rfl, rfl, rfl⟩) ?_
    refine parse_end a _ 1 105 100 99 120 ?_ h5
    have hlt : 0 < a.data.toList.length := by omega
    have hb := bt_get a 0 hlt
    simp only [Int.ofNat_zero] at hb
    rw [show bt a 0 = ((a.data.toList[0]).toNat : Int) from hb]
    have hg : g1 a.data.toList = kindOf (a.data.toList[0]) := by
      unfold g1
      congr 1
      match a.data.toList, hlt with
      | b :: _, _ => rfl
    rw [hg]
    generalize a.data.toList[0] = b
    have q := fun n (hn : n < 256) => byte_eq b n hn
    have q1 := q 105 (by decide)
    have q2 := q 100 (by decide)
    have q3 := q 99 (by decide)
    have q4 := q 120 (by decide)
    have l1 : letterOf 1 = 105 := rfl
    have l2 : letterOf (1 + 1) = 100 := rfl
    have l3 : letterOf (1 + 1 + 1) = 99 := rfl
    have l4 : letterOf (1 + 1 + 1 + 1) = 120 := rfl
    rw [l1, l2, l3, l4]
    unfold kindOf
    by_cases h1 : b = 105
    · subst h1; rfl
    · by_cases h2 : b = 100
      · subst h2; rfl
      · by_cases h3 : b = 99
        · subst h3; rfl
        · by_cases h4 : b = 120
          · subst h4; rfl
          · rw [if_neg h1, if_neg h2, if_neg h3, if_neg h4, if_neg (fun e => h4 (q4.1 e.symm)), if_neg (fun e => h3 (q3.1 e.symm)), if_neg (fun e => h2 (q2.1 e.symm)), if_neg (fun e => h1 (q1.1 e.symm))]
end Go.Proofs.Ytpnmajblhgnkoaa.Z
end

section
/- Lists of items, over lists: right ones, what changes make of one, what the changes between two are. -/
namespace Go.Proofs.Ytpnmajblhgnkoaa.Z
open Go.RowKit Go.Proofs.YtpnmajblhgnkoaaW.PrintWords Go.Proofs.YtpnmajblhgnkoaaW.PrintLast
set_option linter.unusedVariables false
abbrev It := S61
abbrev key (x : It) : List UInt8 := x.f0.toList
def okK (k : ByteArray) : Bool := decide (k.toList ≠ [] ∧ k.size ≤ 48)
def okI (x : It) : Bool := okK x.f0 && decide (x.f1.size ≤ 160)
def okF : Option It → List It → Bool
  | _, [] => true
  | p, x :: l => okI x && (match p with | none => true | some q => Op.bytesLess (key q) (key x)) && okF (some x) l
def okL (l : List It) : Bool := okF none l
def Asc (l : List It) : Prop := l.Pairwise (fun x y => Op.bytesLess (key x) (key y) = true)
theorem okF_iff : ∀ (l : List It) (p : Option It), okF p l = true ↔ (∀ x ∈ l, okI x = true) ∧ Asc (p.toList ++ l)
  | [], none => by simp [okF, Asc]
  | [], some q => by simp [okF, Asc]
  | x :: l, none => by
    have ih := okF_iff l (some x)
    simp only [okF, Bool.and_true, Bool.and_eq_true, ih, Option.toList, List.nil_append, List.mem_cons, forall_eq_or_imp, List.singleton_append]
    constructor
    · rintro ⟨a, b, c⟩; exact ⟨⟨a, b⟩, c⟩
    · rintro ⟨⟨a, b⟩, c⟩; exact ⟨a, b, c⟩
  | x :: l, some q => by
    have ih := okF_iff l (some x)
    simp only [okF, Bool.and_eq_true, ih, Option.toList, List.mem_cons, forall_eq_or_imp, List.singleton_append]
    constructor
    · rintro ⟨⟨a, d⟩, b, c⟩
      refine ⟨⟨a, b⟩, ?_⟩
      unfold Asc at c ⊢
      refine List.pairwise_cons.2 ⟨fun y hy => ?_, c⟩
      rcases List.mem_cons.1 hy with rfl | hy
      · exact d
      · exact bl_trans d ((List.pairwise_cons.1 c).1 y hy)
    · rintro ⟨⟨a, b⟩, c⟩
      unfold Asc at c ⊢
      have := List.pairwise_cons.1 c
      exact ⟨⟨a, this.1 x (List.mem_cons_self ..)⟩, b, this.2⟩
theorem okL_iff (l : List It) : okL l = true ↔ (∀ x ∈ l, okI x = true) ∧ Asc l := by
  unfold okL; rw [okF_iff]; simp
theorem Asc.cons {x : It} {l : List It} (h : Asc (x :: l)) : (∀ y ∈ l, Op.bytesLess (key x) (key y) = true) ∧ Asc l := List.pairwise_cons.1 h
theorem Asc.parts {a b : List It} (h : Asc (a ++ b)) : Asc a ∧ Asc b ∧ ∀ x ∈ a, ∀ y ∈ b, Op.bytesLess (key x) (key y) = true := List.pairwise_append.1 h
def lo (l : List It) (k : List UInt8) : List It := l.takeWhile (fun x => Op.bytesLess (key x) k)
def up (l : List It) (k : List UInt8) : List It := l.dropWhile (fun x => Op.bytesLess (key x) k)
def fnd (l : List It) (k : List UInt8) : Bool := match up l k with | x :: _ => key x == k | [] => false
def hi (l : List It) (k : List UInt8) : List It := (up l k).dropWhile (fun x => key x == k)
theorem lo_up (l : List It) (k : List UInt8) : lo l k ++ up l k = l := List.takeWhile_append_dropWhile
theorem lo_mem {l : List It} {k : List UInt8} : ∀ x ∈ lo l k, Op.bytesLess (key x) k = true := by
  unfold lo
  induction l with
  | nil => simp
  | cons y l ih =>
    intro x hx
    rw [List.takeWhile_cons] at hx
    split at hx
    next h => rcases List.mem_cons.1 hx with rfl | hx
              · exact h
              · exact ih x hx
    next h => cases hx
theorem up_head {l : List It} {k : List UInt8} {x : It} {r : List It} (h : up l k = x :: r) : Op.bytesLess (key x) k = false := by
  unfold up at h
  induction l with
  | nil => simp at h
  | cons y l ih =>
    rw [List.dropWhile_cons] at h
    split at h
    next => exact ih h
    next hn => injection h with h1 _; subst h1; simpa using hn
theorem up_ge {l : List It} (ha : Asc l) {k : List UInt8} : ∀ x ∈ up l k, Op.bytesLess (key x) k = false := by
  intro x hx
  cases hu : up l k with
  | nil => rw [hu] at hx; cases hx
  | cons y r =>
    have h1 := up_head hu
    rw [hu] at hx
    rcases List.mem_cons.1 hx with rfl | hx
    · exact h1
    · have h2 : Asc (lo l k ++ y :: r) := by rw [← hu, lo_up]; exact ha
      have h3 := (h2.parts.2.1.cons).1 x hx
      cases hb : Op.bytesLess (key x) k
      · rfl
      · have := bl_trans h3 hb; rw [this] at h1; cases h1
/-- The three parts of a right list about a key. -/
theorem parts_of {l : List It} (ha : Asc l) (k : List UInt8) : ∃ mid, l = lo l k ++ mid ++ hi l k ∧ up l k = mid ++ hi l k ∧ (∀ x ∈ lo l k, Op.bytesLess (key x) k = true) ∧ (∀ x ∈ hi l k, Op.bytesLess k (key x) = true) ∧
    ((mid = [] ∧ fnd l k = false) ∨ (∃ x, mid = [x] ∧ key x = k ∧ fnd l k = true)) := by
  cases hu : up l k with
  | nil =>
    have hh : hi l k = [] := by unfold hi; rw [hu]; rfl
    refine ⟨[], ?_, by rw [hh]; rfl, lo_mem, by rw [hh]; simp, .inl ⟨rfl, by unfold fnd; rw [hu]⟩⟩
    have := lo_up l k
    rw [hu] at this
    rw [hh]; simpa using this.symm
  | cons y r =>
    have h2 : Asc (lo l k ++ y :: r) := by rw [← hu, lo_up]; exact ha
    have hr := (h2.parts.2.1.cons).1
    have hy := up_head hu
    have hl : l = lo l k ++ y :: r := by rw [← hu, lo_up]
    by_cases he : key y = k
    · have hd : r.dropWhile (fun x => key x == k) = r := by
        cases r with
        | nil => rfl
        | cons z r =>
          have hz := hr z (List.mem_cons_self ..)
          have : (key z == k) = false := by rw [beq_eq_false_iff_ne]; rintro hk; rw [← he] at hk; exact bl_ne hz hk.symm
          rw [List.dropWhile_cons]; simp [this]
      have hh : hi l k = r := by
        unfold hi; rw [hu, List.dropWhile_cons]
        simp only [he, beq_self_eq_true, if_true]
        exact hd
      refine ⟨[y], by rw [hh]; simpa using hl, by rw [hh]; rfl, lo_mem, ?_, .inr ⟨y, rfl, he, by unfold fnd; rw [hu]; simpa using he⟩⟩
      rw [hh]; intro x hx; rw [← he]; exact hr x hx
    · have hk : Op.bytesLess k (key y) = true := by
        rcases bl_total (key y) k with h | h | h
        · exact absurd h he
        · have h' : Op.bytesLess (key y) k = true := h
          rw [hy] at h'; cases h'
        · exact h
      have hb : (key y == k) = false := by rw [beq_eq_false_iff_ne]; exact he
      have hh : hi l k = y :: r := by unfold hi; rw [hu, List.dropWhile_cons]; simp [hb]
      refine ⟨[], by rw [hh]; simpa using hl, by rw [hh]; rfl, lo_mem, ?_, .inl ⟨rfl, by unfold fnd; rw [hu]; exact hb⟩⟩
      rw [hh]; intro x hx
      rcases List.mem_cons.1 hx with rfl | hx
      · exact hk
      · exact bl_trans hk (hr x hx)
def look (l : List It) (k : List UInt8) : Option ByteArray := (l.find? (fun x => key x == k)).map (·.f1)
theorem look_app (a b : List It) (k : List UInt8) : look (a ++ b) k = (look a k).or (look b k) := by
  unfold look; rw [List.find?_append]; cases h : a.find? (fun x => key x == k) <;> simp
theorem look_none {l : List It} {k : List UInt8} (h : ∀ x ∈ l, key x ≠ k) : look l k = none := by
  unfold look
  rw [List.find?_eq_none.2 (fun x hx => by simpa using h x hx)]; rfl
theorem look_cons (x : It) (l : List It) (k : List UInt8) : look (x :: l) k = if key x = k then some x.f1 else look l k := by
  unfold look
  rw [List.find?_cons]
  by_cases h : key x = k
  · simp [h]
  · have : (key x == k) = false := by rw [beq_eq_false_iff_ne]; exact h
    rw [if_neg h, this]
-- the reference's Done
end Go.Proofs.Ytpnmajblhgnkoaa.Z
end

section
/- What the functions of package item, and the reference's, come to. -/
namespace Go.Proofs.Ytpnmajblhgnkoaa.Z
open Go.RowKit Go.Proofs.YtpnmajblhgnkoaaW.PrintWords Go.Proofs.YtpnmajblhgnkoaaW.PrintLast
set_option linter.unusedVariables false
theorem rd_get (l : List It) (i : Nat) (h : i < l.length) : rd_T61 l (i : Int) = l[i] := by
  unfold rd_T61
  rw [Int.toNat_natCast, List.getD_eq_getElem?_getD, List.getElem?_eq_getElem h]; rfl
theorem iright_f (x : It) : item_right.f x.f0 x.f1 = some (okI x) := by
  unfold item_right.f okI okK
  by_cases h : x.f0.toList = []
  · simp [h]
  · rw [if_neg h]
    by_cases h2 : (x.f0.size : Int) ≤ 48
    · rw [if_pos h2]
      have h3 : x.f0.size ≤ 48 := by omega
      have : decide ((x.f1.size : Int) ≤ 160) = decide (x.f1.size ≤ 160) := decide_eq_decide.2 (by omega)
      simp [h, h3, this]
    · rw [if_neg h2]
      have h3 : ¬ x.f0.size ≤ 48 := by omega
      simp [h3]
def prv (l : List It) : Nat → Option It
  | 0 => none
  | j + 1 => l[j]?
theorem prv_succ (l : List It) (i : Nat) (h : i < l.length) : prv l (i + 1) = some l[i] := List.getElem?_eq_getElem h
/-- What Check says at a place. -/
def ckS (b : Bool) : Int := if b then 0 else 4
theorem okF_at (l : List It) (i : Nat) (h : i < l.length) : okF (prv l i) (l.drop i) = (okI l[i] && (match prv l i with | none => true | some q => Op.bytesLess (key q) (key l[i])) && okF (prv l (i + 1)) (l.drop (i + 1))) := by
  rw [List.drop_eq_getElem_cons h, prv_succ l i h]
  cases prv l i <;> rfl
theorem itCheck_l0 (l : List It) (hl : l.length ≤ 4398046511104) : ∀ d i : Nat, l.length = i + d → Ev (fun k => item_Check.l0 k l l (l.length : Int) (i : Int)) (ckS (okF (prv l i) (l.drop i)))
  | 0, i, hi => by
    refine Ev.step (fun k => by rw [item_Check.l0]) ?_
    refine Ev.ifn (by omega) (Ev.const ?_)
    rw [List.drop_of_length_le (by omega)]
    unfold okF; rfl
  | d + 1, i, hi => by
    have hlt : i < l.length := by omega
    have ih := itCheck_l0 l hl d (i + 1) (by omega)
    rw [okF_at l i hlt]
    refine Ev.step (fun k => by rw [item_Check.l0]) ?_
    refine Ev.ifp (by omega) (Ev.ifp (by omega) (Ev.ifp (by omega) (Ev.bindc (by rw [rd_get l i hlt]; exact iright_f _) ?_)))
    cases hr : okI l[i] with
    | false => exact Ev.ifn (by simp) (Ev.const rfl)
    | true =>
      refine Ev.ifp rfl ?_
      rw [w64 (i := (i : Int) + 1) (by omega) (by omega)]
      cases i with
      | zero =>
        refine Ev.ifn (by omega) (Ev.val ih ?_)
        simp [prv]
      | succ j =>
        refine Ev.ifp (by omega) ?_
        have e : wrap64 (((j + 1 : Nat) : Int) - 1) = (j : Int) := by rw [w64 (by omega) (by omega)]; omega
        rw [e]
        refine Ev.ifp (by omega) (Ev.ifp (by omega) ?_)
        rw [rd_get l j (by omega), rd_get l (j + 1) hlt]
        rw [prv_succ l j (by omega)]
        cases hb : Op.bytesLess (l[j]).f0.toList (l[j + 1]).f0.toList with
        | false =>
          refine Ev.ifn (by simp) (Ev.const ?_)
          simp [ckS, key, hb]
        | true =>
          refine Ev.ifp rfl (Ev.val ih ?_)
          simp [key, hb]
theorem itCheck (l : List It) (hl : l.length ≤ 4398046511104) : Ev (fun k => item_Check.f k l) (ckS (okL l)) := itCheck_l0 l hl l.length 0 (by omega)
-- two texts compared
def cmpS (a b : List UInt8) : Int := if Op.bytesLess a b = true then -1 else if Op.bytesLess b a = true then 1 else 0
theorem compare_f (a b : ByteArray) : cmp_Compare_string.f a b = some (cmpS a.toList b.toList) := by
  unfold cmp_Compare_string.f cmp_isNaN_string.f cmpS
  simp only [bne_self_eq_false, Option.bind_some, Bool.false_eq_true, if_false]
  split
  · rfl
  · split <;> rfl
theorem cmpS_lt (a b : List UInt8) : cmpS a b < 0 ↔ Op.bytesLess a b = true := by
  unfold cmpS
  cases h : Op.bytesLess a b
  · simp only [Bool.false_eq_true, if_false, iff_false]; split <;> omega
  · simp
theorem cmpS_eq (a b : List UInt8) : (cmpS a b == 0) = (a == b) := by
  unfold cmpS
  rcases bl_total a b with rfl | h | h
  · simp [bl_irrefl]
  · have := bl_ne h
    simp [h, this]
  · have := (bl_ne h).symm
    simp [h, bl_asymm h, this]
theorem iu64w {i : Int} (h0 : 0 ≤ i) (h1 : i ≤ 9223372036854775807) : IntKind.u64.wrap i = i := by
  simp [IntKind.wrap, IntKind.bits, IntKind.signed]; omega
theorem lo_get {l : List It} (ha : Asc l) (k : List UInt8) (h : Nat) (hh : h < l.length) : Op.bytesLess (key l[h]) k = true ↔ h < (lo l k).length := by
  have e := lo_up l k
  constructor
  · intro hb
    rcases Nat.lt_or_ge h (lo l k).length with hc | hc
    · exact hc
    · have hm : l[h] ∈ up l k := by
        have : l[h] = (lo l k ++ up l k)[h]'(by rw [e]; exact hh) := by simp only [e]
        rw [this, List.getElem_append_right hc]
        exact List.getElem_mem _
      rw [up_ge ha _ hm] at hb; cases hb
  · intro hc
    have hm : l[h] ∈ lo l k := by
      have : l[h] = (lo l k ++ up l k)[h]'(by rw [e]; exact hh) := by simp only [e]
      rw [this, List.getElem_append_left hc]
      exact List.getElem_mem _
    exact lo_mem _ hm
theorem lo_le (l : List It) (k : List UInt8) : (lo l k).length ≤ l.length := by
  have := congrArg List.length (lo_up l k); rw [List.length_append] at this; omega
theorem up_drop (l : List It) (k : List UInt8) : up l k = l.drop (lo l k).length := by
  have := congrArg (List.drop (lo l k).length) (lo_up l k)
  rw [List.drop_left] at this
  exact this
theorem search_l0 {l : List It} (ha : Asc l) (hl : l.length ≤ 4398046511104) (a : ByteArray) : ∀ d i j : Nat, j - i ≤ d → i ≤ (lo l a.toList).length → (lo l a.toList).length ≤ j → j ≤ l.length →
    Ev (fun k => slices_BinarySearchFunc_api_Item_api_Item_string_fn71.l0 k l a (l.length : Int) (i : Int) (j : Int)) (((lo l a.toList).length : Int), fnd l a.toList) := by
  have endd : ∀ i : Nat, i = (lo l a.toList).length → ∀ j : Nat, ¬ ((i : Int) < (j : Int)) → Ev (fun k => slices_BinarySearchFunc_api_Item_api_Item_string_fn71.l0 k l a (l.length : Int) (i : Int) (j : Int)) (((lo l a.toList).length : Int), fnd l a.toList) := by
    intro i hi j hj
    refine Ev.step (fun k => by rw [slices_BinarySearchFunc_api_Item_api_Item_string_fn71.l0]) (Ev.ifn hj ?_)
    have hu := up_drop l a.toList
    rw [← hi] at hu
    rcases Nat.lt_or_ge i l.length with hlt | hge
    · refine Ev.ifp (by omega) (Ev.ifp (by omega) (Ev.ifp (by omega) ?_))
      refine Ev.bindc (show item_place_1.f _ _ _ = some _ by unfold item_place_1.f; rw [compare_f]; rfl) (Ev.const ?_)
      rw [rd_get l i hlt, cmpS_eq, ← hi]
      unfold fnd
      rw [hu, List.drop_eq_getElem_cons hlt]
    · refine Ev.ifn (by omega) (Ev.const ?_)
      rw [← hi]
      unfold fnd
      rw [hu, List.drop_of_length_le hge]
  intro d
  induction d with
  | zero =>
    intro i j hd h1 h2 h3
    exact endd i (by omega) j (by omega)
  | succ d ih =>
    intro i j hd h1 h2 h3
    by_cases hij : i < j
    · refine Ev.step (fun k => by rw [slices_BinarySearchFunc_api_Item_api_Item_string_fn71.l0]) (Ev.ifp (by omega) ?_)
      have hm : wrap64 ((IntKind.u64.wrap (wrap64 ((i : Int) + (j : Int)))) / 2) = (((i + j) / 2 : Nat) : Int) := by
        rw [w64 (i := (i : Int) + (j : Int)) (by omega) (by omega), iu64w (by omega) (by omega), w64 (by omega) (by omega)]; omega
      rw [hm]
      obtain ⟨h, hh⟩ : ∃ h, h = (i + j) / 2 := ⟨_, rfl⟩
      have hh1 : i ≤ h := by omega
      have hh2 : h < j := by omega
      rw [← hh]
      have hlt : h < l.length := by omega
      refine Ev.ifp (by omega) (Ev.ifp (by omega) ?_)
      refine Ev.bindc (show item_place_1.f _ _ _ = some _ by unfold item_place_1.f; rw [compare_f]; rfl) ?_
      rw [rd_get l h hlt]
      have hg := lo_get ha a.toList h hlt
      by_cases hb : Op.bytesLess (key l[h]) a.toList = true
      · refine Ev.ifp ((cmpS_lt _ _).2 hb) ?_
        have e : wrap64 ((h : Int) + 1) = ((h + 1 : Nat) : Int) := by rw [w64 (by omega) (by omega)]; omega
        rw [e]
        exact ih (h + 1) j (by omega) (by have := hg.1 hb; omega) h2 h3
      · refine Ev.ifn (fun hc => hb ((cmpS_lt _ _).1 hc)) ?_
        refine ih i h (by omega) h1 ?_ (by omega)
        rcases Nat.lt_or_ge h (lo l a.toList).length with hc | hc
        · exact absurd (hg.2 hc) hb
        · exact hc
    · exact endd i (by omega) j (by omega)
theorem place_f {l : List It} (ha : Asc l) (hl : l.length ≤ 4398046511104) (a : ByteArray) : Ev (fun k => item_place.f k l a) (((lo l a.toList).length : Int), fnd l a.toList) := by
  unfold item_place.f slices_BinarySearchFunc_api_Item_api_Item_string_fn71.f
  exact Ev.bind (search_l0 ha hl a l.length 0 l.length (by omega) (by omega) (lo_le _ _) (Nat.le_refl _)) (Ev.const rfl)
/-- Where a key is: what stands there. -/
theorem at_fnd {l : List It} (ha : Asc l) {k : List UInt8} (hf : fnd l k = true) : ∃ h : (lo l k).length < l.length, key (l[(lo l k).length]) = k ∧ l = lo l k ++ [l[(lo l k).length]] ++ hi l k := by
  obtain ⟨mid, hp, hu, hlo, hhi, hm⟩ := parts_of ha k
  rcases hm with ⟨_, h⟩ | ⟨x, rfl, hx, _⟩
  · rw [h] at hf; cases hf
  · have hlen := congrArg List.length hp
    simp only [List.length_append, List.length_singleton] at hlen
    have hlt : (lo l k).length < l.length := by omega
    have hg : l[(lo l k).length] = x := by
      have : l[(lo l k).length]? = some x := by
        have h2 := congrArg (fun z => z[(lo l k).length]?) hp
        simp only [List.append_assoc] at h2
        rw [List.getElem?_append_right (Nat.le_refl _), Nat.sub_self] at h2
        simpa using h2
      rw [List.getElem?_eq_getElem hlt] at this
      exact Option.some.inj this
    exact ⟨hlt, by rw [hg]; exact hx, by rw [hg]; exact hp⟩
theorem not_fnd {l : List It} (ha : Asc l) {k : List UInt8} (hf : fnd l k = false) : l = lo l k ++ hi l k := by
  obtain ⟨mid, hp, hu, hlo, hhi, hm⟩ := parts_of ha k
  rcases hm with ⟨rfl, _⟩ | ⟨x, rfl, hx, h⟩
  · simpa using hp
  · rw [h] at hf; cases hf
theorem hi_gt {l : List It} (ha : Asc l) {k : List UInt8} : ∀ x ∈ hi l k, Op.bytesLess k (key x) = true := by
  obtain ⟨mid, hp, hu, hlo, hhi, hm⟩ := parts_of ha k
  exact hhi
theorem look_fnd {l : List It} (ha : Asc l) {k : List UInt8} (hf : fnd l k = true) (h : (lo l k).length < l.length) : look l k = some (l[(lo l k).length]).f1 := by
  obtain ⟨h2, hk, hp⟩ := at_fnd ha hf
  have e := congrArg (fun z => look z k) hp
  simp only [look_app] at e
  rw [e, look_none (fun x hx => bl_ne (lo_mem x hx)), look_cons, if_pos hk]
  simp
theorem look_not {l : List It} (ha : Asc l) {k : List UInt8} (hf : fnd l k = false) : look l k = none := by
  have e := congrArg (fun z => look z k) (not_fnd ha hf)
  simp only [look_app] at e
  rw [e, look_none (fun x hx => bl_ne (lo_mem x hx)), look_none (fun x hx => (bl_ne (hi_gt ha x hx)).symm)]; rfl
def getS (l : List It) (k : List UInt8) : ByteArray × Int := if okL l = true then (match look l k with | some v => (v, 0) | none => (⟨#[]⟩, 5)) else (⟨#[]⟩, 4)
theorem itGet (l : List It) (hl : l.length ≤ 4398046511104) (a : ByteArray) : Ev (fun k => item_Get.f k l a) (getS l a.toList) := by
  unfold item_Get.f
  refine Ev.bind (itCheck l hl) ?_
  by_cases ho : okL l = true
  · have ha := ((okL_iff l).1 ho).2
    unfold getS
    rw [if_pos ho]
    refine Ev.ifp (by rw [ho]; rfl) (Ev.bind (place_f ha hl a) ?_)
    cases hf : fnd l a.toList with
    | true =>
      obtain ⟨h, hk, _⟩ := at_fnd ha hf
      refine Ev.ifp rfl (Ev.ifp (by simp only; omega) (Ev.ifp (by simp only; omega) (Ev.const ?_)))
      rw [look_fnd ha hf h, rd_get l _ h]
    | false =>
      refine Ev.ifn (by simp) (Ev.const ?_)
      rw [look_not ha hf]
  · have ho' : okL l = false := by simpa using ho
    unfold getS
    rw [ho']
    exact Ev.ifn (by decide) (Ev.const rfl)
theorem look_at {l : List It} (ha : Asc l) (j : Nat) (h : j < l.length) : look l (key l[j]) = some (l[j]).f1 := by
  have e : l = l.take j ++ l[j] :: l.drop (j + 1) := by rw [← List.drop_eq_getElem_cons h, List.take_append_drop]
  have ha2 : Asc (l.take j ++ l[j] :: l.drop (j + 1)) := e ▸ ha
  have e2 := congrArg (fun z => look z (key l[j])) e
  simp only [look_app] at e2
  rw [e2, look_none (fun x hx => bl_ne (ha2.parts.2.2 x hx _ (List.mem_cons_self ..))), look_cons, if_pos rfl]; rfl
end Go.Proofs.Ytpnmajblhgnkoaa.Z
end

section
/- dirs: what a volume comes to, in plain words (by hand). -/
namespace Go.Proofs.Ytpnmajblhgnkoaa.Z
open Go.RowKit Go.Proofs.YtpnmajblhgnkoaaW.PrintWords Go.Proofs.YtpnmajblhgnkoaaW.PrintLast Go.Proofs.YtpnmajblhgnkoaaW.PrintMore Go.Proofs.Ytpnmajblhgnkoaa.PM
set_option linter.unusedVariables false
set_option linter.unusedSimpArgs false
/-- What an entry names. -/
def numS (v : ByteArray) : Int := if v.data.toList.length = 4 then (if (num v.data.toList : Int) ≤ 1 then 0 else num v.data.toList) else 0
theorem numS_f (v : ByteArray) : Ev (fun k => dirs_number.f k v) (numS v) := by
  unfold dirs_number.f
  refine Ev.bind (tnum_f v 4 (by decide) (by decide)) ?_
  unfold numS ba3 takeS
  by_cases h : v.data.toList.length < 4
  · refine Ev.ifn (by simp only [if_pos h]; decide) (Ev.const ?_)
    rw [if_neg (by omega)]
  · refine Ev.ifp (by simp only [if_neg h]) ?_
    by_cases h4 : v.data.toList.length = 4
    · have hd : v.data.toList.drop 4 = [] := List.drop_eq_nil_of_le (by omega)
      have ht : v.data.toList.take 4 = v.data.toList := List.take_of_length_le (by omega)
      have hn := num_lt 4 v.data.toList h4
      rw [p4] at hn
      refine Ev.ifp (by simp only [ba_toList]; exact hd) ?_
      simp only [if_neg h, ht, if_pos h4]
      refine Ev.ite (fun h1 => Ev.const (by rw [if_pos h1])) (fun h1 => Ev.const (by rw [if_neg h1]; congr 1; omega))
    · refine Ev.ifn (by simp only [ba_toList]; intro h0; have := congrArg List.length h0; rw [List.length_drop, List.length_nil] at this; omega) (Ev.const ?_)
      rw [if_neg h4]
theorem numS_range (v : ByteArray) : numS v = 0 ∨ (1 < numS v ∧ numS v < 4294967296) := by
  unfold numS
  by_cases h : v.data.toList.length = 4
  · have hn := num_lt 4 v.data.toList h
    rw [p4] at hn
    rw [if_pos h]
    by_cases h1 : (num v.data.toList : Int) ≤ 1
    · rw [if_pos h1]; exact .inl rfl
    · rw [if_neg h1]; exact .inr (by omega)
  · rw [if_neg h]; exact .inl rfl
/-- An item, its key taken apart; an inode's bytes, read. -/
def keptS (x : It) : KItm := ⟨(parsS x.f0.data.toList).1, (parsS x.f0.data.toList).2.1, ba (parsS x.f0.data.toList).2.2.1, (parsS x.f0.data.toList).2.2.2.1, x.f1⟩
def inoS (v : ByteArray) : INd := ⟨(decS v.data.toList).1, (decS v.data.toList).2.1, (decS v.data.toList).2.2.1, (decS v.data.toList).2.2.2.1, ba (decS v.data.toList).2.2.2.2.1⟩
def okP (x : It) : Bool := (parsS x.f0.data.toList).2.2.2.2 == 0 && (!((keptS x).f0 == 1) || (decS x.f1.data.toList).2.2.2.2.2 == 0)
def addS (s : VS) (x : It) : VS := if (keptS x).f0 = 1 then (s.add (keptS x)).put1 (keptS x).f1 (inoS x.f1)
  else if (keptS x).f0 = 2 then (s.add (keptS x)).put2 (numS x.f1) (wrap64 (((s.up (numS x.f1)).getD (0, 0)).1 + 1), (keptS x).f1) else s.add (keptS x)
def parseS : List It → VS → Option VS
  | [], s => some s
  | x :: r, s => if okP x = true then parseS r (addS s x) else none
def Fit (l : List It) : Prop := ∀ x ∈ l, x.f0.size ≤ maxLen ∧ x.f1.size ≤ maxLen
theorem okP_key {x : It} (h : okP x = true) : rightK (keptS x).f0 (keptS x).f1 (keptS x).f2.data.toList (keptS x).f3 = true ∧ keyL (keptS x).f0 (keptS x).f1 (keptS x).f2.data.toList (keptS x).f3 = x.f0.data.toList ∧ (0 ≤ (keptS x).f1 ∧ (keptS x).f1 < 4294967296) ∧ 0 ≤ (keptS x).f3 := by
  unfold okP at h
  rw [Bool.and_eq_true] at h
  have := key_pars (l := x.f0.data.toList) rfl (eq_of_beq h.1)
  unfold keptS
  rw [ba_data]
  exact this
theorem addS_len (s : VS) (x : It) : (addS s x).all = s.all ++ [keptS x] := by
  unfold addS
  split
  · rfl
  · split <;> rfl
theorem parseL_f : ∀ (l : List It) (s : VS), Fit l → s.all.length + l.length ≤ 4398046511103 → Ev (fun k => parseL k l s) (parseS l s)
  | [], s, _, _ => Ev.const rfl
  | x :: r, s, hf, hl => by
    have hx := hf x (List.mem_cons_self ..)
    have hm : maxLen ≤ 9223372036854775807 := by decide
    simp only [List.length_cons] at hl
    refine Ev.congr (fun k => by rw [parseL]) ?_
    refine Ev.bind (parse_f x.f0 (by omega)) ?_
    unfold baK
    show Ev (fun k => if (parsS x.f0.data.toList).2.2.2.2 = 0 then _ else _) _
    by_cases hp : (parsS x.f0.data.toList).2.2.2.2 = 0
    · refine Ev.ifp hp ?_
      have hr := key_pars (l := x.f0.data.toList) rfl hp
      refine Ev.ifp ⟨hr.2.2.1.1, hr.2.2.1.2, by omega⟩ ?_
      have hlen : (addS s x).all.length + r.length ≤ 4398046511103 := by rw [addS_len, List.length_append, List.length_singleton]; omega
      have ih := parseL_f r (addS s x) (fun y hy => hf y (List.mem_cons_of_mem _ hy)) hlen
      rw [parseS]
      by_cases h1 : (parsS x.f0.data.toList).1 = 1
      · refine Ev.ifp h1 ?_
        refine Ev.bind (decode_f x.f1 (by omega)) ?_
        unfold baI
        by_cases hd : (decS x.f1.data.toList).2.2.2.2.2 = 0
        · refine Ev.ifp hd ?_
          rw [if_pos (by unfold okP; rw [hp, hd]; simp)]
          rw [show addS s x = (s.add (keptS x)).put1 (keptS x).f1 (inoS x.f1) from if_pos h1] at ih ⊢
          exact ih
        · refine Ev.ifn hd (Ev.const ?_)
          rw [if_neg (by unfold okP keptS; simp [hd, h1])]
      · refine Ev.ifn h1 ?_
        rw [if_pos (by unfold okP keptS; simp [hp, h1])]
        by_cases h2 : (parsS x.f0.data.toList).1 = 2
        · refine Ev.ifp h2 ?_
          refine Ev.bind (numS_f x.f1) ?_
          rw [show addS s x = (s.add (keptS x)).put2 (numS x.f1) (wrap64 (((s.up (numS x.f1)).getD (0, 0)).1 + 1), (keptS x).f1) from (if_neg h1).trans (if_pos h2)] at ih ⊢
          exact ih
        · refine Ev.ifn h2 ?_
          rw [show addS s x = s.add (keptS x) from (if_neg h1).trans (if_neg h2)] at ih ⊢
          exact ih
    · refine Ev.ifn hp (Ev.const ?_)
      rw [parseS, if_neg (by unfold okP; simp [hp])]
/-- What is known of a volume whose keys are taken apart. -/
structure Inv (p : List It) (s : VS) : Prop where
  all : s.all = p.map keptS
  ok : ∀ x ∈ p, okP x = true
  src : ∀ a n, s.ino a = some n → ∃ x ∈ p, (keptS x).f0 = 1 ∧ (keptS x).f1 = a ∧ n = inoS x.f1
  has : ∀ x ∈ p, (keptS x).f0 = 1 → (s.ino (keptS x).f1).isSome = true
theorem Inv.add {p : List It} {s : VS} (h : Inv p s) {x : It} (hx : okP x = true) : Inv (p ++ [x]) (addS s x) := by
  refine ⟨by rw [addS_len, h.all, List.map_append]; rfl, fun y hy => ?_, fun a n hn => ?_, fun y hy h1 => ?_⟩
  · rcases List.mem_append.1 hy with hy | hy
    · exact h.ok y hy
    · rw [List.mem_singleton.1 hy]; exact hx
  · by_cases h1 : (keptS x).f0 = 1
    · rw [show addS s x = (s.add (keptS x)).put1 (keptS x).f1 (inoS x.f1) from if_pos h1] at hn
      have hn : (if a = (keptS x).f1 then some (inoS x.f1) else s.ino a) = some n := hn
      by_cases ha : a = (keptS x).f1
      · rw [if_pos ha] at hn
        exact ⟨x, by simp, h1, ha.symm, (Option.some.inj hn).symm⟩
      · rw [if_neg ha] at hn
        obtain ⟨y, hy, e⟩ := h.src a n hn
        exact ⟨y, by simp [hy], e⟩
    · have : s.ino a = some n := by
        rw [← hn]
        unfold addS
        rw [if_neg h1]
        split <;> rfl
      obtain ⟨y, hy, e⟩ := h.src a n this
      exact ⟨y, by simp [hy], e⟩
  · by_cases hk : (keptS x).f0 = 1
    · rw [show addS s x = (s.add (keptS x)).put1 (keptS x).f1 (inoS x.f1) from if_pos hk]
      show (if (keptS y).f1 = (keptS x).f1 then some (inoS x.f1) else s.ino (keptS y).f1).isSome = true
      split
      · rfl
      · rename_i hne
        rcases List.mem_append.1 hy with hy | hy
        · exact h.has y hy h1
        · rw [List.mem_singleton.1 hy] at hne; exact absurd rfl hne
    · have e : ∀ a, (addS s x).ino a = s.ino a := fun a => by
        unfold addS
        rw [if_neg hk]
        split <;> rfl
      rw [e]
      rcases List.mem_append.1 hy with hy | hy
      · exact h.has y hy h1
      · rw [List.mem_singleton.1 hy] at h1; exact absurd h1 hk
theorem parseS_inv : ∀ (l p : List It) (s s' : VS), Inv p s → parseS l s = some s' → Inv (p ++ l) s'
  | [], p, s, s', h, e => by rw [List.append_nil]; rw [← Option.some.inj e]; exact h
  | x :: r, p, s, s', h, e => by
    rw [parseS] at e
    by_cases hx : okP x = true
    · rw [if_pos hx] at e
      have := parseS_inv r (p ++ [x]) (addS s x) s' (h.add hx) e
      rwa [List.append_assoc, List.singleton_append] at this
    · rw [if_neg hx] at e; exact absurd e (by simp)
theorem inv0 : Inv [] VS0 := ⟨rfl, fun x h => (by cases h), fun a n h => (by cases h), fun x h => (by cases h)⟩
/-- Does an item go with its inode? -/
def fitsS (s : VS) (x : KItm) : Bool :=
  if x.f0 = 2 then (s.ino x.f1).isSome && (s.ino (numS x.f4)).isSome && ((s.ino x.f1).getD zI).kd == 1
  else if x.f0 = 3 then (s.ino x.f1).isSome && ((s.ino x.f1).getD zI).kd == 2 && decide (0 ≤ (x.f4.size : Int) - 1) && decide ((x.f4.size : Int) - 1 < 128) && bt x.f4 ((x.f4.size : Int) - 1) != 0 && decide (x.f3 * 128 + ((x.f4.size : Int) - 1) < ((s.ino x.f1).getD zI).sz)
  else if x.f0 = 4 then (s.ino x.f1).isSome && decide ((x.f4.size : Int) ≤ 64) else (s.ino x.f1).isSome
theorem inoS_sz (v : ByteArray) : 0 ≤ (inoS v).sz ∧ (inoS v).sz < 4294967296 := by
  unfold inoS
  show 0 ≤ (decS v.data.toList).2.2.2.1 ∧ (decS v.data.toList).2.2.2.1 < 4294967296
  unfold decS
  split
  · rename_i h; exact (f_range _ h.1).2.2.2
  · exact ⟨by decide, by decide⟩
theorem Inv.sz {p : List It} {s : VS} (h : Inv p s) (a : Int) : 0 ≤ ((s.ino a).getD zI).sz ∧ ((s.ino a).getD zI).sz < 4294967296 := by
  cases hn : s.ino a with
  | none => exact ⟨by decide, by decide⟩
  | some n =>
    obtain ⟨x, _, _, _, e⟩ := h.src a n hn
    rw [e]
    exact inoS_sz x.f1
theorem fits_f {p : List It} {s : VS} (h : Inv p s) {x : It} (hx : okP x = true) (hv : x.f1.size ≤ 65536) : Ev (fun k => fitsF k s (keptS x)) (fitsS s (keptS x)) := by
  unfold fitsF fitsS
  refine Ev.ite (fun h2 => ?_) (fun h2 => ?_)
  · rw [if_pos h2]
    exact Ev.bind (numS_f _) (Ev.const rfl)
  · rw [if_neg h2]
    refine Ev.ite (fun h3 => ?_) (fun h3 => ?_)
    · rw [if_pos h3]
      have hk := okP_key hx
      have hs := h.sz (keptS x).f1
      have hr := hk.1
      rw [h3] at hr
      unfold rightK at hr
      have hr := (of_decide_eq_true hr).2
      exact Ev.ifp ⟨hk.2.2.2, by omega, hs.1, hs.2, hv⟩ (Ev.const rfl)
    · rw [if_neg h3]
      refine Ev.ite (fun h4 => Ev.const (by rw [if_pos h4])) (fun h4 => Ev.const (by rw [if_neg h4]))
theorem misfit_f {p : List It} {s : VS} (h : Inv p s) : ∀ l : List It, (∀ x ∈ l, okP x = true ∧ x.f1.size ≤ 65536) → Ev (fun k => misfitL k s (l.map keptS)) (!(l.map keptS).all (fitsS s))
  | [], _ => Ev.const rfl
  | x :: r, hx => by
    have h1 := hx x (List.mem_cons_self ..)
    refine Ev.congr (fun k => by rw [List.map_cons, misfitL]) ?_
    refine Ev.bind (fits_f h h1.1 h1.2) ?_
    rw [List.map_cons, List.all_cons]
    refine Ev.ite (fun hb => ?_) (fun hb => ?_)
    · rw [hb, Bool.true_and]
      exact misfit_f h r (fun y hy => hx y (List.mem_cons_of_mem _ hy))
    · rw [(Bool.not_eq_true _).mp hb]; exact Ev.const rfl
/-- A volume, looked through: none if it is not right. -/
def lookS (l : List It) : Option VS := match parseS l VS0 with
  | none => none
  | some s => if okL l = true ∧ ((s.ino 1).getD zI).kd = 1 ∧ s.all.all (fitsS s) = true ∧ lookAll s s.all = true then some s else none
theorem look_f (l : List It) (hf : Fit l) (hl : l.length ≤ 4398046511103) : Ev (fun k => lookF k l) (lookS l) := by
  unfold lookF parseF lookS
  have hp := parseL_f l VS0 hf (by show 0 + l.length ≤ _; omega)
  cases hs : parseS l VS0 with
  | none =>
    rw [hs] at hp
    exact Ev.bind (Ev.bind hp (Ev.const rfl)) (Ev.const rfl)
  | some s =>
    rw [hs] at hp
    have hi := parseS_inv l [] VS0 s inv0 hs
    rw [List.nil_append] at hi
    have hpf : Ev (fun k => (parseL k l VS0).bind fun o => match o with | none => some none | some s => (item_Check.f k l).bind fun c => if c = 0 ∧ ((s.ino 1).getD zI).kd = 1 then some (some s) else some none) (if okL l = true ∧ ((s.ino 1).getD zI).kd = 1 then some s else none) := by
      refine Ev.bind hp ?_
      refine Ev.bind (itCheck l (by omega)) ?_
      by_cases hk : okL l = true
      · rw [hk]
        refine Ev.ite (fun h => Ev.const (by rw [if_pos ⟨rfl, h.2⟩])) (fun h => Ev.const ?_)
        rw [if_neg (fun h' => h ⟨rfl, h'.2⟩)]
      · rw [(Bool.not_eq_true _).mp hk]
        exact Ev.ifn (fun h => absurd h.1 (by decide)) (Ev.const (by rw [if_neg (fun h' => absurd h'.1 (by decide))]))
    refine Ev.bind hpf ?_
    by_cases hk : okL l = true ∧ ((s.ino 1).getD zI).kd = 1
    · rw [if_pos hk]
      have hm := misfit_f hi l (fun x hx => ⟨hi.ok x hx, by
        have := ((okL_iff l).1 hk.1).1 x hx
        unfold okI at this
        simp only [Bool.and_eq_true, decide_eq_true_eq] at this
        omega⟩)
      rw [← hi.all] at hm
      refine Ev.bind hm ?_
      by_cases ha : s.all.all (fitsS s) = true
      · rw [ha]
        refine Ev.ifn (by decide) (Ev.const ?_)
        by_cases hq : lookAll s s.all = true
        · rw [if_pos hq]; simp only []; rw [if_pos ⟨hk.1, hk.2, ha, hq⟩]
        · rw [if_neg hq]; simp only []; rw [if_neg (fun h => hq h.2.2.2)]
      · rw [(Bool.not_eq_true _).mp ha]
        refine Ev.ifp rfl (Ev.const ?_)
        simp only []
        rw [if_neg (fun h => ha h.2.2.1)]
    · rw [if_neg hk]
      simp only []
      rw [if_neg (fun h => hk ⟨h.1, h.2.1⟩)]
      exact Ev.const rfl
/-- What is known of a right volume. -/
structure Rt (l : List It) (s : VS) : Prop where
  inv : Inv l s
  ok : okL l = true
  root : ((s.ino 1).getD zI).kd = 1
  fits : ∀ x ∈ l, fitsS s (keptS x) = true
theorem look_rt {l : List It} {s : VS} (h : lookS l = some s) : Rt l s := by
  unfold lookS at h
  cases hs : parseS l VS0 with
  | none => rw [hs] at h; exact absurd h (by simp)
  | some s' =>
    rw [hs] at h
    simp only [] at h
    by_cases hc : okL l = true ∧ ((s'.ino 1).getD zI).kd = 1 ∧ s'.all.all (fitsS s') = true ∧ lookAll s' s'.all = true
    · rw [if_pos hc] at h
      obtain rfl := Option.some.inj h
      have hi := parseS_inv l [] VS0 s' inv0 hs
      rw [List.nil_append] at hi
      refine ⟨hi, hc.1, hc.2.1, fun x hx => ?_⟩
      have := hc.2.2.1
      rw [hi.all, List.all_map, List.all_eq_true] at this
      exact this x hx
    · rw [if_neg hc] at h; exact absurd h (by simp)
/-- What a directory has by a name. -/
def entryS (l : List It) (i : Int) (nm : ByteArray) : Int := if rightK 2 i nm.data.toList 0 = true then numS ((look l (keyL 2 i nm.data.toList 0)).getD ⟨#[]⟩) else 0
theorem entry_f {l : List It} (hk : okL l = true) (hl : l.length ≤ 4398046511104) {i : Int} (hi : 0 ≤ i ∧ i < 4294967296) (nm : ByteArray) : Ev (fun k => entryF k l i nm) (entryS l i nm) := by
  unfold entryF
  refine Ev.bind (key_f 2 i nm 0 (by decide) hi (by decide)) ?_
  unfold keyS entryS
  by_cases hr : rightK 2 i nm.data.toList 0 = true
  · rw [if_pos hr, if_pos hr]
    refine Ev.ifp rfl ?_
    refine Ev.bind (itGet l hl _) ?_
    unfold getS
    rw [if_pos hk, ba_toList]
    cases look l (keyL 2 i nm.data.toList 0) with
    | none => exact numS_f _
    | some v => exact numS_f _
  · rw [if_neg hr, if_neg hr]
    exact Ev.ifn (by decide) (Ev.const rfl)
theorem entryS_range (l : List It) (i : Int) (nm : ByteArray) : 0 ≤ entryS l i nm ∧ entryS l i nm < 4294967296 := by
  unfold entryS
  split
  · have := numS_range ((look l (keyL 2 i nm.data.toList 0)).getD ⟨#[]⟩)
    omega
  · exact ⟨by decide, by decide⟩
theorem mem_of_look {l : List It} {k : List UInt8} {v : ByteArray} (h : look l k = some v) : ∃ x ∈ l, key x = k ∧ x.f1 = v := by
  unfold look at h
  obtain ⟨x, hx, rfl⟩ := Option.map_eq_some_iff.1 h
  have he := List.find?_some (p := fun x => key x == k) hx
  exact ⟨x, List.mem_of_find?_eq_some hx, eq_of_beq he, rfl⟩
theorem look_mem {l : List It} (ha : Asc l) {x : It} (h : x ∈ l) : look l (key x) = some x.f1 := by
  obtain ⟨j, hj, rfl⟩ := List.mem_iff_getElem.1 h
  exact look_at ha j hj
/-- An entry's item. -/
theorem Rt.entry {l : List It} {s : VS} (h : Rt l s) {i : Int} {nm : ByteArray} (hi : 0 ≤ i ∧ i < 4294967296) (ht : entryS l i nm ≠ 0) : ∃ x ∈ l, (keptS x).f0 = 2 ∧ (keptS x).f1 = i ∧ (keptS x).f2 = nm ∧ numS x.f1 = entryS l i nm := by
  unfold entryS at ht ⊢
  by_cases hr : rightK 2 i nm.data.toList 0 = true
  · rw [if_pos hr] at ht ⊢
    cases hv : look l (keyL 2 i nm.data.toList 0) with
    | none => rw [hv] at ht; exact absurd (by decide) ht
    | some v =>
      obtain ⟨x, hx, hk, rfl⟩ := mem_of_look hv
      have hk' : x.f0.data.toList = keyL 2 i nm.data.toList 0 := by rw [← ByteArray.toList_eq]; exact hk
      have hp := pars_key hr hi (by decide : (0 : Int) ≤ 0)
      rw [← hk'] at hp
      refine ⟨x, hx, ?_, ?_, ?_, rfl⟩
      · show (parsS x.f0.data.toList).1 = 2
        rw [hp]
      · show (parsS x.f0.data.toList).2.1 = i
        rw [hp]
      · show ba (parsS x.f0.data.toList).2.2.1 = nm
        rw [hp]; exact data_ba nm
  · rw [if_neg hr] at ht; exact absurd rfl ht
theorem Rt.kept {l : List It} {s : VS} (h : Rt l s) {x : It} (hx : x ∈ l) (h2 : (keptS x).f0 = 2) : entryS l (keptS x).f1 (keptS x).f2 = numS x.f1 ∧ (s.ino (keptS x).f1).isSome = true ∧ (s.ino (numS x.f1)).isSome = true ∧ ((s.ino (keptS x).f1).getD zI).kd = 1 := by
  have hk := okP_key (h.inv.ok x hx)
  have hr := hk.1
  rw [h2] at hr
  have h3 : (keptS x).f3 = 0 := by
    unfold rightK at hr
    have := (of_decide_eq_true hr).2
    omega
  rw [h3] at hr
  have hkey : key x = keyL 2 (keptS x).f1 (keptS x).f2.data.toList 0 := by
    show x.f0.toList = _
    rw [ByteArray.toList_eq, ← hk.2.1, h2, h3]
  have hf := h.fits x hx
  unfold fitsS at hf
  rw [if_pos h2] at hf
  simp only [Bool.and_eq_true] at hf
  refine ⟨?_, hf.1.1, hf.1.2, eq_of_beq hf.2⟩
  unfold entryS
  rw [if_pos hr, ← hkey, look_mem ((okL_iff l).1 h.ok).2 hx]
  rfl
theorem Rt.pos {l : List It} {s : VS} (h : Rt l s) {a : Int} (hs : (s.ino a).isSome = true) : 0 < a ∧ a < 4294967296 := by
  obtain ⟨n, hn⟩ := Option.isSome_iff_exists.1 hs
  obtain ⟨x, hx, h1, rfl, _⟩ := h.inv.src a n hn
  have hk := okP_key (h.inv.ok x hx)
  have hr := hk.1
  unfold rightK at hr
  exact ⟨(of_decide_eq_true hr).1, hk.2.2.1.2⟩
theorem Rt.to {l : List It} {s : VS} (h : Rt l s) {i : Int} {nm : ByteArray} (hi : 0 ≤ i ∧ i < 4294967296) (ht : entryS l i nm ≠ 0) : (s.ino (entryS l i nm)).isSome = true := by
  obtain ⟨x, hx, h2, h1, hn, he⟩ := h.entry hi ht
  rw [← he]
  exact (h.kept hx h2).2.2.1
abbrev VS.kd (s : VS) (a : Int) : Int := ((s.ino a).getD zI).kd
/-- A link's names, why there are none. -/
def tgS (s : VS) (t : Int) : List ByteArray × Int := baP (pathSpec ((s.ino t).getD zI).tg.data.toList)
/-- What comes of a link. -/
def linkS (rec : Option (List ByteArray → Int × Int)) (p : List ByteArray × Int) (r : List ByteArray) : Int × Int := match rec with
  | none => (0, 15)
  | some R => if p.2 = 0 then R (p.1 ++ r) else (0, p.2)
/-- Going along names; rec: what to do at a link. -/
def goS (l : List It) (s : VS) (follow : Bool) (rec : Option (List ByteArray → Int × Int)) : List ByteArray → Int → Int × Int
  | [], a => (a, 0)
  | x :: r, a => if s.kd a = 1 then (if entryS l a x = 0 then (0, 5) else if s.kd (entryS l a x) = 3 ∧ ¬ (r = [] ∧ follow = false) then
      linkS rec (tgS s (entryS l a x)) r
      else goS l s follow rec r (entryS l a x)) else (0, 12)
def walkS (l : List It) (s : VS) (follow : Bool) : Nat → List ByteArray → Int → Int × Int
  | 0, ns, a => goS l s follow none ns a
  | b + 1, ns, a => goS l s follow (some fun m => walkS l s follow b m 1) ns a
theorem tgS_len (s : VS) (t : Int) : (tgS s t).1.length ≤ 300 := by
  unfold tgS baP
  rw [List.length_map]
  rcases path_cases ((s.ino t).getD zI).tg.data.toList with h | ⟨_, h⟩ | ⟨rest, h0, _, h1, h2, h3⟩
  · rw [h.2]; decide
  · rw [h]; decide
  · rw [h3]
    have hj := congrArg List.length (joinL_splitL rest)
    rw [joinL_length, List.length_cons] at hj
    rw [h0, List.length_cons] at h1
    show (splitL rest).length ≤ 300
    omega
theorem walk_f {l : List It} {s : VS} (h : Rt l s) (hl : l.length ≤ 4398046511104) (follow : Bool) : ∀ (b : Nat) (ns : List ByteArray) (a : Int), (0 ≤ a ∧ a < 4294967296) → ns.length + 300 * b ≤ 10995116277760 → b ≤ 8 →
    Ev (fun k => walkL l s follow k ns a (8 - (b : Int))) (walkS l s follow b ns a) := by
  have go : ∀ (b : Nat) (rec : Option (List ByteArray → Int × Int)), b ≤ 8 → (rec = none → b = 0) → (∀ R, rec = some R → ∃ c, b = c + 1 ∧ ∀ m, m.length + 300 * c ≤ 10995116277760 → Ev (fun k => walkL l s follow k m 1 (8 - (c : Int))) (R m)) →
      ∀ (ns : List ByteArray) (a : Int), (0 ≤ a ∧ a < 4294967296) → ns.length + 300 * b ≤ 10995116277760 → Ev (fun k => walkL l s follow k ns a (8 - (b : Int))) (goS l s follow rec ns a) := by
    intro b rec hb h0 hR ns
    induction ns with
    | nil => intro a ha hn; exact Ev.step (f := fun _ => some (a, 0)) (fun k => by rw [walkL]) (Ev.now _)
    | cons x r ih =>
      intro a ha hn
      rw [List.length_cons] at hn
      refine Ev.step (fun k => by rw [walkL]) ?_
      rw [goS]
      by_cases hd : s.kd a = 1
      · rw [if_pos hd]
        refine Ev.ifp hd ?_
        refine Ev.bind (entry_f h.ok hl ha x) ?_
        by_cases ht : entryS l a x = 0
        · rw [if_pos ht]; exact Ev.ifp ht (Ev.const rfl)
        · rw [if_neg ht]
          refine Ev.ifn ht ?_
          by_cases hk : s.kd (entryS l a x) = 3 ∧ ¬ (r = [] ∧ follow = false)
          · rw [if_pos hk]
            refine Ev.ifp hk ?_
            cases rec with
            | none =>
              have := h0 rfl
              exact Ev.ifp (by omega) (Ev.const rfl)
            | some R =>
              obtain ⟨c, rfl, hc⟩ := hR R rfl
              refine Ev.ifn (by omega) ?_
              refine Ev.bind (split_f _) ?_
              have e : baP (pathSpec ((s.ino (entryS l a x)).getD zI).tg.data.toList) = tgS s (entryS l a x) := rfl
              rw [e]
              have hlen := tgS_len s (entryS l a x)
              unfold linkS
              by_cases hz : (tgS s (entryS l a x)).2 = 0
              · simp only [if_pos hz]
                refine Ev.ifp (by omega) ?_
                rw [show (8 : Int) - ((c + 1 : Nat) : Int) + 1 = 8 - (c : Int) by omega]
                exact hc _ (by rw [List.length_append]; omega)
              · simp only [if_neg hz]
                exact Ev.const rfl
          · rw [if_neg hk]
            refine Ev.ifn hk ?_
            exact ih _ (entryS_range l a x) (by omega)
      · rw [if_neg hd]; exact Ev.ifn hd (Ev.const rfl)
  intro b
  induction b with
  | zero => intro ns a ha hn hb; exact go 0 none hb (fun _ => rfl) (fun R e => by cases e) ns a ha hn
  | succ c ih => intro ns a ha hn hb; exact go (c + 1) _ hb (fun e => by cases e) (fun R e => ⟨c, rfl, fun m hm => by cases e; exact ih m 1 ⟨by decide, by decide⟩ hm (by omega)⟩) ns a ha hn
/-! ### The package's functions -/
theorem Check_f {l : List It} (hf : Fit l) (hl : l.length ≤ 4398046511103) : Ev (fun k => dirs_Check.f k l) (match lookS l with | none => 9 | some _ => 0) := by
  unfold dirs_Check.f
  refine Ev.bind (look_f l hf hl) ?_
  cases lookS l <;> exact Ev.const rfl
def getR (o : Option VS) (a : Int) : Int × Int × Int × Int × ByteArray × Int := match o with
  | none => (0, 0, 0, 0, ⟨#[]⟩, 9)
  | some s => match s.ino a with | none => (0, 0, 0, 0, ⟨#[]⟩, 5) | some n => (n.kd, n.md, n.ln, n.sz, n.tg, 0)
theorem Get_f {l : List It} (hf : Fit l) (hl : l.length ≤ 4398046511103) {a : Int} (ha : 0 ≤ a ∧ a < 4294967296) : Ev (fun k => dirs_Get.f k l a) (getR (lookS l) a) := by
  unfold dirs_Get.f getR
  refine Ev.ifp ha ?_
  refine Ev.bind (look_f l hf hl) ?_
  cases lookS l with
  | none => exact Ev.const rfl
  | some s =>
    simp only []
    cases s.ino a <;> exact Ev.const rfl
def walkR (l : List It) (ns : List ByteArray) (follow : Bool) : Int × Int := match lookS l with | none => (0, 9) | some s => walkS l s follow 8 ns 1
theorem Walk_f {l : List It} (hf : Fit l) (hl : l.length ≤ 4398046511103) (ns : List ByteArray) (hn : ns.length ≤ 8796093022208) (follow : Bool) : Ev (fun k => dirs_Walk.f k l ns follow) (walkR l ns follow) := by
  unfold dirs_Walk.f walkR
  refine Ev.bind (look_f l hf hl) ?_
  cases h : lookS l with
  | none => exact Ev.const rfl
  | some s => exact walk_f (look_rt h) (by omega) follow 8 ns 1 ⟨by decide, by decide⟩ (by omega) (by decide)
def entS (s : VS) (x : KItm) : S34 := ⟨x.f2, numS x.f4, s.kd (numS x.f4)⟩
def listS (s : VS) (a : Int) : List S34 := (s.all.filter (fun x => x.f0 == 2 && x.f1 == a)).map (entS s)
theorem listL_f (s : VS) (a : Int) : ∀ (r : List KItm) (acc : List S34), acc.length + r.length ≤ 4398046511103 → Ev (fun k => listL k s a r acc) (acc ++ (r.filter (fun x => x.f0 == 2 && x.f1 == a)).map (entS s))
  | [], acc, _ => Ev.congr (fun k => by rw [listL]) (Ev.const (by simp))
  | x :: r, acc, h => by
    rw [List.length_cons] at h
    refine Ev.congr (fun k => by rw [listL]) ?_
    by_cases hx : x.f0 = 2 ∧ x.f1 = a
    · refine Ev.ifp hx ?_
      refine Ev.bind (numS_f x.f4) ?_
      refine Ev.ifp (by omega) ?_
      refine Ev.val (listL_f s a r _ (by rw [List.length_append, List.length_singleton]; omega)) ?_
      rw [List.filter_cons_of_pos (by simp [hx.1, hx.2]), List.map_cons, List.append_assoc]
      rfl
    · refine Ev.ifn hx ?_
      refine Ev.val (listL_f s a r acc (by omega)) ?_
      rw [List.filter_cons_of_neg (by simpa using hx)]
def listR (o : Option VS) (a : Int) : List S34 × Int := match o with
  | none => ([], 9)
  | some s => match s.ino a with | none => ([], 5) | some n => if n.kd = 1 then (listS s a, 0) else ([], 12)
theorem List_f {l : List It} (hf : Fit l) (hl : l.length ≤ 4398046511103) {a : Int} (ha : 0 ≤ a ∧ a < 4294967296) : Ev (fun k => dirs_List.f k l a) (listR (lookS l) a) := by
  unfold dirs_List.f listR
  refine Ev.ifp ha ?_
  refine Ev.bind (look_f l hf hl) ?_
  cases h : lookS l with
  | none => exact Ev.const rfl
  | some s =>
    simp only []
    cases s.ino a with
    | none => exact Ev.const rfl
    | some n =>
      show Ev _ (if n.kd = 1 then (listS s a, (0 : Int)) else ([], 12))
      refine Ev.ite (fun hk => ?_) (fun hk => Ev.const (by rw [if_neg hk]))
      rw [if_pos hk]
      have hlen : s.all.length = l.length := by rw [(look_rt h).inv.all, List.length_map]
      refine Ev.bind (listL_f s a s.all [] (by rw [List.length_nil]; omega)) (Ev.const ?_)
      rw [List.nil_append]
      rfl
end Go.Proofs.Ytpnmajblhgnkoaa.Z
end

section
-- Printed by a program of this session (mp.py) out of the translation.
namespace Go.Proofs.Ytpnmajblhgnkoaa.Z
open Go.RowKit Go.Proofs.YtpnmajblhgnkoaaW.PrintWords Go.Proofs.YtpnmajblhgnkoaaW.PrintLast Go.Proofs.YtpnmajblhgnkoaaW.PrintMore
attribute [local go_sem] max2_int min2_int max_two min_two max_three min_three max_four min_four   -- for this text's walks alone
set_option linter.unusedVariables false
set_option linter.unusedSimpArgs false

/-! ### dirs_New: function 13 -/
def dirs_New.f (k : Nat)  : Option ((List (S61))) := (inode_Key.f k 1 1 (⟨#[]⟩ : ByteArray) 0).bind fun bt216 => ((inode_Encode.f k 1 0 1 0 (⟨#[]⟩ : ByteArray)).bind fun bt218 => (some (([(⟨bt216.1, bt218.1⟩ : S61)] : List (S61)))))
theorem dirs_New.mono : ∀ k, LeO (dirs_New.f k ) (dirs_New.f (k + 1) ) := by
  intro  k
  unfold dirs_New.f
  repeat' first
      | (with_reducible exact inode_Encode.mono _ _ _ _ _ _)
      | (with_reducible exact inode_Key.mono _ _ _ _ _)
      | (with_reducible exact LeO.refl _)
      | (with_reducible exact LeO.none _)
      | (with_reducible refine LeO.ite ?_ ?_)
      | (with_reducible refine LeO.bind ?_ (fun _ => ?_))
      | exact inode_Encode.mono _ _ _ _ _ _
      | exact inode_Key.mono _ _ _ _ _
      | exact LeO.none _
      | refine LeO.ite ?_ ?_
      | refine LeO.bind ?_ (fun _ => ?_)
set_option maxHeartbeats 8000000 in
set_option maxRecDepth 100000 in
theorem dirs_New.calls (k : Nat)  (r : List (S61)) (w : World) (h : dirs_New.f k  = some r) :
    Calls Try.prog 13 #[] w fun e w' => ∃ v0_ : Value, e = .returned (v0_) ∧ Kd.R k61 61 w' w.heap.size (fun _ => True) v0_ r ∧ Below w.heap.size w w' := by
  have hu58 := Try.underlying58
  have hu37 := Try.underlying37
  have hu61 := Try.underlying61
  have HB := Aside0.mk (Below.refl w.heap.size w)
  have H : ((inode_Key.f k 1 1 (⟨#[]⟩ : ByteArray) 0).bind fun bt216 => ((inode_Encode.f k 1 0 1 0 (⟨#[]⟩ : ByteArray)).bind fun bt218 => (some (([(⟨bt216.1, bt218.1⟩ : S61)] : List (S61)))))) = some r := h
  clear h
  replace H := Option.bind_eq_some_iff.mp H
  obtain ⟨⟨t216, t217⟩, A10, H⟩ := H
  replace H : ((inode_Encode.f k 1 0 1 0 (⟨#[]⟩ : ByteArray)).bind fun bt218 => (some (([(⟨t216, bt218.1⟩ : S61)] : List (S61))))) = some r := H
  have A1 := Aside0.mk A10
  clear A10
  replace H := Option.bind_eq_some_iff.mp H
  obtain ⟨⟨t218, t219⟩, A20, H⟩ := H
  replace H : (some (([(⟨t216, t218⟩ : S61)] : List (S61)))) = some r := H
  have A2 := Aside0.mk A20
  clear A20
  obtain ⟨y220, hy220⟩ : ∃ y_ : List (S61), y_ = (([(⟨t216, t218⟩ : S61)] : List (S61))) := ⟨_, rfl⟩
  replace H : (some y220) = some r := by first | (rw [hy220]; with_reducible exact H) | (have H2_ := (Option.bind_some _ _).symm.trans H; rw [hy220]; with_reducible exact H2_) | (have H2_ := (Option.bind_some _ _).symm.trans H; with_reducible exact H2_) | with_reducible exact H | (rw [hy220]; exact H) | exact H
  have Ny220 := Aside0.mk hy220
  clear hy220
  obtain rfl := Option.some.inj H
  go_enter Try.func13, Try.ntmps13
  go_wp2_with (first | ((with_reducible refine gate_callee (f := 20) rfl ?_); refine gl_ (some 7) Try.func20 #[.agg #[.int .u8 1, .int .u32 1, .string (⟨#[]⟩ : ByteArray), .int .u32 0]] ?_; (with_reducible refine (inode_Key.calls k 1 1 (⟨#[]⟩ : ByteArray) 0 t216 t217 _ A1.out).mono ?_); rintro e w3 ⟨rfl, hb⟩; refine ⟨_, rfl, ?_⟩; replace HB := hb_ hb; (try clear hb); (try clear hb2); (try clear hk); (try clear hi)) | ((with_reducible refine gate_callee (f := 21) rfl ?_); refine gl_ (some 12) Try.func21 #[.agg #[.int .u8 1, .int .u16 0, .int .u32 1, .int .u32 0, .string (⟨#[]⟩ : ByteArray)]] ?_; (with_reducible refine (inode_Encode.calls k 1 0 1 0 (⟨#[]⟩ : ByteArray) t218 t219 _ A2.out).mono ?_); rintro e w4 ⟨rfl, hb⟩; refine ⟨_, rfl, ?_⟩; replace HB := hb_ hb; (try clear hb); (try clear hb2); (try clear hk); (try clear hi)) | ((with_reducible refine gate_dst (N := 18) rfl ?_); refine Kd.R_lit k61 _ 61 ?hg (N := 18) ?hd (xs := ([(⟨t216, t218⟩ : S61)] : List (S61))) (inner := [.string t216, .string t218]) (ok := fun _ => True) (okp := fun _ => True) ?hr ?hp (fun _ hk => hk) trivial (Below.refl _ _) (Nat.le_refl _) (by simp) ?_; (case hd => rfl); (case hg => rfl); (case hr => first | (go_simp; done) | (go_simp; rfl)); (case hp => exact (Reps.c2 (show Kd.M k61 _ _ _ (⟨t216, t218⟩ : S61) [.string t216, .string t218] from (k61_mkM _ _ _ (⟨t216, t218⟩ : S61) )) (Reps.none _ _))); intro v221 w5 ho6 hb hg_ hnew_; clear hg_ hnew_; (first | rw [← Ny220.out] at ho6 | (simp only [Int.reduceToNat] at ho6; rw [← Ny220.out] at ho6)); have HO222 := rl_ ho6; replace HB := hb_ hb; clear hb ho6))
  go_ret
  exact ⟨_, by first | rfl | (simp [errW_none, errW_some] <;> rfl) | (simp [*, errW_none, errW_some] <;> rfl), by (with_reducible repeat (first | apply Kd.R_alloc | apply Kd.R_drewN | apply Kd.R_drew)); exact HO222.out, bel_⟩

end Go.Proofs.Ytpnmajblhgnkoaa.Z
end

section
-- Printed by a program of this session (mp.py) out of the translation.
namespace Go.Proofs.Ytpnmajblhgnkoaa.Z
open Go.RowKit Go.Proofs.YtpnmajblhgnkoaaW.PrintWords Go.Proofs.YtpnmajblhgnkoaaW.PrintLast Go.Proofs.YtpnmajblhgnkoaaW.PrintMore
attribute [local go_sem] max2_int min2_int max_two min_two max_three min_three max_four min_four   -- for this text's walks alone
set_option linter.unusedVariables false
set_option linter.unusedSimpArgs false

/-! ### cambiumlaw14_lives: function 7 -/
def cambiumlaw14_lives.f (k : Nat)  : Option (Bool) := (dirs_New.f k).bind fun t223 => ((dirs_Get.f k t223 1).bind fun bt226 => ((dirs_Walk.f k t223 ([] : List ByteArray) true).bind fun bt233 => ((dirs_Walk.f k t223 (([(⟨#[97]⟩ : ByteArray)] : List ByteArray)) true).bind fun bt238 => ((dirs_List.f k t223 1).bind fun bt240 => ((dirs_Next.f k t223).bind fun bt244 => (if (t223.length : Int) = 1 then ((dirs_Check.f k t223).bind fun t246 => (if t246 = 0 then (if bt226.1 = 1 then (if bt226.2.2.2.2.2 = 0 then (if bt233.1 = 1 then (if bt233.2 = 0 then (if bt238.2 = 5 then (if (bt240.1.length : Int) = 0 then (if bt240.2 = 0 then (if bt244.1 = 2 then (if bt244.2 = 0 then ((dirs_Check.f k ([] : List (S61))).bind fun t247 => (some (t247 == 9))) else (some false)) else (some false)) else (some false)) else (some false)) else (some false)) else (some false)) else (some false)) else (some false)) else (some false)) else (some false))) else (some false)))))))
theorem cambiumlaw14_lives.mono : ∀ k, LeO (cambiumlaw14_lives.f k ) (cambiumlaw14_lives.f (k + 1) ) := by
  intro  k
  unfold cambiumlaw14_lives.f
  repeat' first
      | (with_reducible exact dirs_Check.mono _ _)
      | (with_reducible exact dirs_Get.mono _ _ _)
      | (with_reducible exact dirs_List.mono _ _ _)
      | (with_reducible exact dirs_New.mono _)
      | (with_reducible exact dirs_Next.mono _ _)
      | (with_reducible exact dirs_Walk.mono _ _ _ _)
      | (with_reducible exact LeO.refl _)
      | (with_reducible exact LeO.none _)
      | (with_reducible refine LeO.ite ?_ ?_)
      | (with_reducible refine LeO.bind ?_ (fun _ => ?_))
      | exact dirs_Check.mono _ _
      | exact dirs_Get.mono _ _ _
      | exact dirs_List.mono _ _ _
      | exact dirs_New.mono _
      | exact dirs_Next.mono _ _
      | exact dirs_Walk.mono _ _ _ _
      | exact LeO.none _
      | refine LeO.ite ?_ ?_
      | refine LeO.bind ?_ (fun _ => ?_)
set_option maxHeartbeats 8000000 in
set_option maxRecDepth 100000 in
theorem cambiumlaw14_lives.calls (k : Nat)  (r : Bool) (w : World) (h : cambiumlaw14_lives.f k  = some r) (hT_ : r = true := by rfl) :
    Calls Try.prog 7 #[] w fun e w' => e = .returned (.bool r) ∧ Below w.heap.size w w' := by
  have HT_ := Aside0.mk hT_
  clear hT_
  have hu37 := Try.underlying37
  have HB := Aside0.mk (Below.refl w.heap.size w)
  have H : ((dirs_New.f k).bind fun t223 => ((dirs_Get.f k t223 1).bind fun bt226 => ((dirs_Walk.f k t223 ([] : List ByteArray) true).bind fun bt233 => ((dirs_Walk.f k t223 (([(⟨#[97]⟩ : ByteArray)] : List ByteArray)) true).bind fun bt238 => ((dirs_List.f k t223 1).bind fun bt240 => ((dirs_Next.f k t223).bind fun bt244 => (if (t223.length : Int) = 1 then ((dirs_Check.f k t223).bind fun t246 => (if t246 = 0 then (if bt226.1 = 1 then (if bt226.2.2.2.2.2 = 0 then (if bt233.1 = 1 then (if bt233.2 = 0 then (if bt238.2 = 5 then (if (bt240.1.length : Int) = 0 then (if bt240.2 = 0 then (if bt244.1 = 2 then (if bt244.2 = 0 then ((dirs_Check.f k ([] : List (S61))).bind fun t247 => (some (t247 == 9))) else (some false)) else (some false)) else (some false)) else (some false)) else (some false)) else (some false)) else (some false)) else (some false)) else (some false)) else (some false))) else (some false)))))))) = some r := h
  clear h
  replace H := Option.bind_eq_some_iff.mp H
  obtain ⟨t223, A10, H⟩ := H
  replace H : ((dirs_Get.f k t223 1).bind fun bt226 => ((dirs_Walk.f k t223 ([] : List ByteArray) true).bind fun bt233 => ((dirs_Walk.f k t223 (([(⟨#[97]⟩ : ByteArray)] : List ByteArray)) true).bind fun bt238 => ((dirs_List.f k t223 1).bind fun bt240 => ((dirs_Next.f k t223).bind fun bt244 => (if (t223.length : Int) = 1 then ((dirs_Check.f k t223).bind fun t246 => (if t246 = 0 then (if bt226.1 = 1 then (if bt226.2.2.2.2.2 = 0 then (if bt233.1 = 1 then (if bt233.2 = 0 then (if bt238.2 = 5 then (if (bt240.1.length : Int) = 0 then (if bt240.2 = 0 then (if bt244.1 = 2 then (if bt244.2 = 0 then ((dirs_Check.f k ([] : List (S61))).bind fun t247 => (some (t247 == 9))) else (some false)) else (some false)) else (some false)) else (some false)) else (some false)) else (some false)) else (some false)) else (some false)) else (some false)) else (some false))) else (some false))))))) = some r := H
  have A1 := Aside0.mk A10
  clear A10
  replace H := Option.bind_eq_some_iff.mp H
  obtain ⟨⟨t226, t227, t228, t229, t230, t231⟩, A20, H⟩ := H
  replace H : ((dirs_Walk.f k t223 ([] : List ByteArray) true).bind fun bt233 => ((dirs_Walk.f k t223 (([(⟨#[97]⟩ : ByteArray)] : List ByteArray)) true).bind fun bt238 => ((dirs_List.f k t223 1).bind fun bt240 => ((dirs_Next.f k t223).bind fun bt244 => (if (t223.length : Int) = 1 then ((dirs_Check.f k t223).bind fun t246 => (if t246 = 0 then (if t226 = 1 then (if t231 = 0 then (if bt233.1 = 1 then (if bt233.2 = 0 then (if bt238.2 = 5 then (if (bt240.1.length : Int) = 0 then (if bt240.2 = 0 then (if bt244.1 = 2 then (if bt244.2 = 0 then ((dirs_Check.f k ([] : List (S61))).bind fun t247 => (some (t247 == 9))) else (some false)) else (some false)) else (some false)) else (some false)) else (some false)) else (some false)) else (some false)) else (some false)) else (some false)) else (some false))) else (some false)))))) = some r := H
  have A2 := Aside0.mk A20
  clear A20
  replace H := Option.bind_eq_some_iff.mp H
  obtain ⟨⟨t233, t234⟩, A30, H⟩ := H
  replace H : ((dirs_Walk.f k t223 (([(⟨#[97]⟩ : ByteArray)] : List ByteArray)) true).bind fun bt238 => ((dirs_List.f k t223 1).bind fun bt240 => ((dirs_Next.f k t223).bind fun bt244 => (if (t223.length : Int) = 1 then ((dirs_Check.f k t223).bind fun t246 => (if t246 = 0 then (if t226 = 1 then (if t231 = 0 then (if t233 = 1 then (if t234 = 0 then (if bt238.2 = 5 then (if (bt240.1.length : Int) = 0 then (if bt240.2 = 0 then (if bt244.1 = 2 then (if bt244.2 = 0 then ((dirs_Check.f k ([] : List (S61))).bind fun t247 => (some (t247 == 9))) else (some false)) else (some false)) else (some false)) else (some false)) else (some false)) else (some false)) else (some false)) else (some false)) else (some false)) else (some false))) else (some false))))) = some r := H
  have A3 := Aside0.mk A30
  clear A30
  obtain ⟨y235, hy235⟩ : ∃ y_ : List ByteArray, y_ = (([(⟨#[97]⟩ : ByteArray)] : List ByteArray)) := ⟨_, rfl⟩
  replace H : ((dirs_Walk.f k t223 y235 true).bind fun bt238 => ((dirs_List.f k t223 1).bind fun bt240 => ((dirs_Next.f k t223).bind fun bt244 => (if (t223.length : Int) = 1 then ((dirs_Check.f k t223).bind fun t246 => (if t246 = 0 then (if t226 = 1 then (if t231 = 0 then (if t233 = 1 then (if t234 = 0 then (if bt238.2 = 5 then (if (bt240.1.length : Int) = 0 then (if bt240.2 = 0 then (if bt244.1 = 2 then (if bt244.2 = 0 then ((dirs_Check.f k ([] : List (S61))).bind fun t247 => (some (t247 == 9))) else (some false)) else (some false)) else (some false)) else (some false)) else (some false)) else (some false)) else (some false)) else (some false)) else (some false)) else (some false))) else (some false))))) = some r := by first | (rw [hy235]; with_reducible exact H) | (have H2_ := (Option.bind_some _ _).symm.trans H; rw [hy235]; with_reducible exact H2_) | (have H2_ := (Option.bind_some _ _).symm.trans H; with_reducible exact H2_) | with_reducible exact H | (rw [hy235]; exact H) | exact H
  have Ny235 := Aside0.mk hy235
  clear hy235
  replace H := Option.bind_eq_some_iff.mp H
  obtain ⟨⟨t238, t239⟩, A40, H⟩ := H
  replace H : ((dirs_List.f k t223 1).bind fun bt240 => ((dirs_Next.f k t223).bind fun bt244 => (if (t223.length : Int) = 1 then ((dirs_Check.f k t223).bind fun t246 => (if t246 = 0 then (if t226 = 1 then (if t231 = 0 then (if t233 = 1 then (if t234 = 0 then (if t239 = 5 then (if (bt240.1.length : Int) = 0 then (if bt240.2 = 0 then (if bt244.1 = 2 then (if bt244.2 = 0 then ((dirs_Check.f k ([] : List (S61))).bind fun t247 => (some (t247 == 9))) else (some false)) else (some false)) else (some false)) else (some false)) else (some false)) else (some false)) else (some false)) else (some false)) else (some false)) else (some false))) else (some false)))) = some r := H
  have A4 := Aside0.mk A40
  clear A40
  replace H := Option.bind_eq_some_iff.mp H
  obtain ⟨⟨t240, t241⟩, A50, H⟩ := H
  replace H : ((dirs_Next.f k t223).bind fun bt244 => (if (t223.length : Int) = 1 then ((dirs_Check.f k t223).bind fun t246 => (if t246 = 0 then (if t226 = 1 then (if t231 = 0 then (if t233 = 1 then (if t234 = 0 then (if t239 = 5 then (if (t240.length : Int) = 0 then (if t241 = 0 then (if bt244.1 = 2 then (if bt244.2 = 0 then ((dirs_Check.f k ([] : List (S61))).bind fun t247 => (some (t247 == 9))) else (some false)) else (some false)) else (some false)) else (some false)) else (some false)) else (some false)) else (some false)) else (some false)) else (some false)) else (some false))) else (some false))) = some r := H
  have A5 := Aside0.mk A50
  clear A50
  replace H := Option.bind_eq_some_iff.mp H
  obtain ⟨⟨t244, t245⟩, A60, H⟩ := H
  replace H : (if (t223.length : Int) = 1 then ((dirs_Check.f k t223).bind fun t246 => (if t246 = 0 then (if t226 = 1 then (if t231 = 0 then (if t233 = 1 then (if t234 = 0 then (if t239 = 5 then (if (t240.length : Int) = 0 then (if t241 = 0 then (if t244 = 2 then (if t245 = 0 then ((dirs_Check.f k ([] : List (S61))).bind fun t247 => (some (t247 == 9))) else (some false)) else (some false)) else (some false)) else (some false)) else (some false)) else (some false)) else (some false)) else (some false)) else (some false)) else (some false))) else (some false)) = some r := H
  have A6 := Aside0.mk A60
  clear A60
  by_cases c7 : (t223.length : Int) = 1
  · rw [if_pos c7] at H
    have c7b0 : ((t223.length : Int) == 1) = true := beq_iff_eq.mpr c7
    have c7b1 : ((t223.length : Int) != 1) = false := bne_eq_false_iff_eq.mpr c7
    clear c7
    replace H := Option.bind_eq_some_iff.mp H
    obtain ⟨t246, A80, H⟩ := H
    replace H : (if t246 = 0 then (if t226 = 1 then (if t231 = 0 then (if t233 = 1 then (if t234 = 0 then (if t239 = 5 then (if (t240.length : Int) = 0 then (if t241 = 0 then (if t244 = 2 then (if t245 = 0 then ((dirs_Check.f k ([] : List (S61))).bind fun t247 => (some (t247 == 9))) else (some false)) else (some false)) else (some false)) else (some false)) else (some false)) else (some false)) else (some false)) else (some false)) else (some false)) else (some false)) = some r := H
    have A8 := Aside0.mk A80
    clear A80
    by_cases c9 : t246 = 0
    · rw [if_pos c9] at H
      have c9b0 : (t246 == 0) = true := beq_iff_eq.mpr c9
      have c9b1 : (t246 != 0) = false := bne_eq_false_iff_eq.mpr c9
      clear c9
      by_cases c10 : t226 = 1
      · rw [if_pos c10] at H
        have c10b0 : (t226 == 1) = true := beq_iff_eq.mpr c10
        have c10b1 : (t226 != 1) = false := bne_eq_false_iff_eq.mpr c10
        clear c10
        by_cases c11 : t231 = 0
        · rw [if_pos c11] at H
          have c11b0 : (t231 == 0) = true := beq_iff_eq.mpr c11
          have c11b1 : (t231 != 0) = false := bne_eq_false_iff_eq.mpr c11
          clear c11
          by_cases c12 : t233 = 1
          · rw [if_pos c12] at H
            have c12b0 : (t233 == 1) = true := beq_iff_eq.mpr c12
            have c12b1 : (t233 != 1) = false := bne_eq_false_iff_eq.mpr c12
            clear c12
            by_cases c13 : t234 = 0
            · rw [if_pos c13] at H
              have c13b0 : (t234 == 0) = true := beq_iff_eq.mpr c13
              have c13b1 : (t234 != 0) = false := bne_eq_false_iff_eq.mpr c13
              clear c13
              by_cases c14 : t239 = 5
              · rw [if_pos c14] at H
                have c14b0 : (t239 == 5) = true := beq_iff_eq.mpr c14
                have c14b1 : (t239 != 5) = false := bne_eq_false_iff_eq.mpr c14
                clear c14
                by_cases c15 : (t240.length : Int) = 0
                · rw [if_pos c15] at H
                  have c15b0 : ((t240.length : Int) == 0) = true := beq_iff_eq.mpr c15
                  have c15b1 : ((t240.length : Int) != 0) = false := bne_eq_false_iff_eq.mpr c15
                  clear c15
                  by_cases c16 : t241 = 0
                  · rw [if_pos c16] at H
                    have c16b0 : (t241 == 0) = true := beq_iff_eq.mpr c16
                    have c16b1 : (t241 != 0) = false := bne_eq_false_iff_eq.mpr c16
                    clear c16
                    by_cases c17 : t244 = 2
                    · rw [if_pos c17] at H
                      have c17b0 : (t244 == 2) = true := beq_iff_eq.mpr c17
                      have c17b1 : (t244 != 2) = false := bne_eq_false_iff_eq.mpr c17
                      clear c17
                      by_cases c18 : t245 = 0
                      · rw [if_pos c18] at H
                        have c18b0 : (t245 == 0) = true := beq_iff_eq.mpr c18
                        have c18b1 : (t245 != 0) = false := bne_eq_false_iff_eq.mpr c18
                        clear c18
                        replace H := Option.bind_eq_some_iff.mp H
                        obtain ⟨t247, A190, H⟩ := H
                        replace H : (some (t247 == 9)) = some r := H
                        have A19 := Aside0.mk A190
                        clear A190
                        obtain rfl := Option.some.inj H
                        go_enter Try.func7, Try.ntmps7
                        go_wp2_with (first | ((with_reducible refine gate_callee (f := 13) rfl ?_); refine gl_ (some 12) Try.func13 #[] ?_; (with_reducible refine (dirs_New.calls k  t223 _ A1.out).mono ?_); rintro e w20 ⟨v224, rfl, ho0, hb⟩; refine ⟨_, rfl, ?_⟩; have HO225 := rl_ ho0; replace HB := hb_ hb; (try clear hb); (try clear hb2); (try clear hk); (try clear hi); (try clear ho0); obtain ⟨Ao21, co21, eo21⟩ := Kd.R_slice HO225.out; subst eo21) | ((with_reducible refine gate_callee (f := 10) rfl ?_); refine gl_ (some 15) Try.func10 #[.slice Ao21 t223.length co21, .int .u32 1] ?_; (with_reducible refine (dirs_Get.calls k _ _ t223 1 t226 t227 t228 t229 t230 t231 _ ?side1 ?side2 A2.out).mono ?_); (case side1 => exact cr_ HO225); (case side2 => exact (Kd.R_reads' HO225.out).2.1); rintro e w22 ⟨rfl, hb⟩; refine ⟨_, rfl, ?_⟩; replace HO225 := rb_ HO225 hb; replace HB := hb_ hb; (try clear hb); (try clear hb2); (try clear hk); (try clear hi)) | ((with_reducible refine gate_dst (N := 2) rfl ?_); (try (refine gate_guard (by rfl) ?_; dsimp only)); refine bx_ (N := 2) (cs := #[.int .u8 0, .int .u16 0, .int .u32 0, .int .u32 0, .string (⟨#[]⟩ : ByteArray)]) (t := 37) ?_; intro gb232 hg w23 hbox hb; have BK232 := Aside0.mk (hbox); have GW232 := ge_ hg; have GE232 := ge_ hg; replace HO225 := rb_ HO225 hb; replace HB := hb_ hb; clear hb hbox hg; obtain ⟨hcz24_0, hcz24_1, hcz24_2, hcz24_3, hcz24_4⟩ := cl5_ BK232; obtain ⟨hfz24_0, hfz24_1, hfz24_2, hfz24_3, hfz24_4⟩ := fz5_ BK232) | ((with_reducible refine gate_callee (f := 8) rfl ?_); refine gl_ (some 20) Try.func8 #[.slice Ao21 t223.length co21, .slice none 0 0, .bool true] ?_; (refine (dirs_Walk.calls k _ _ t223 _ _ ([] : List ByteArray) true t233 t234 _ ?side1 ?side2 ?side3 ?side4 A3.out).mono ?_); (case side1 => exact (Kd.R_reads' (rw_ HO225)).2.2); (case side2 => exact (Kd.R_reads' HO225.out).2.1); (case side3 => exact Kd.C_nil _ _); (case side4 => exact Nat.le_refl _); rintro e w25 ⟨rfl, hb⟩; refine ⟨_, rfl, ?_⟩; replace HO225 := Aside0.mk (Kd.R_below (rw_ HO225) hb); replace HB := hb_ hb; replace BK232 := Aside0.mk (blk_below (g := gb232) (o := .cells #[.int .u8 t226, .int .u16 t227, .int .u32 t228, .int .u32 t229, .string t230] 37 (0, 0)) (bs_) hb); (try clear hb); (try clear hb2); (try clear hk); (try clear hi)) | ((with_reducible refine gate_dst (N := 25) rfl ?_); (try (refine gate_guard (by rfl) ?_; dsimp only)); refine Kd.R_lit Kd.string _ 9 ?hg (N := 25) ?hd (xs := ([(⟨#[97]⟩ : ByteArray)] : List ByteArray)) (inner := [.string (⟨#[97]⟩ : ByteArray)]) (ok := fun _ => True) (okp := fun _ => True) ?hr ?hp (fun _ hk => hk) trivial (Below.refl _ _) (Nat.le_refl _) (by simp) ?_; (case hd => rfl); (case hg => rfl); (case hr => first | (go_simp; done) | (go_simp; rfl)); (case hp => exact (Reps.one (show Kd.M Kd.string _ _ _ (⟨#[97]⟩ : ByteArray) [.string (⟨#[97]⟩ : ByteArray)] from rfl) (Reps.none _ _))); intro v236 w26 ho27 hb hg_ hnew_; clear hg_ hnew_; (first | rw [← Ny235.out] at ho27 | (simp only [Int.reduceToNat] at ho27; rw [← Ny235.out] at ho27)); have HO237 := rl_ ho27; replace HO225 := rb_ HO225 hb; replace BK232 := kb_ BK232 hb; replace HB := hb_ hb; clear hb ho27; obtain ⟨Ao28, co28, eo28⟩ := Kd.R_slice HO237.out; subst eo28) | ((with_reducible refine gate_callee (f := 8) rfl ?_); refine gl_ (some 26) Try.func8 #[.slice Ao21 t223.length co21, .slice Ao28 y235.length co28, .bool true] ?_; (with_reducible refine (dirs_Walk.calls k _ _ t223 _ _ y235 true t238 t239 _ ?side1 ?side2 ?side3 ?side4 A4.out).mono ?_); (case side1 => exact cr_ HO225); (case side2 => exact (Kd.R_reads' HO225.out).2.1); (case side3 => exact cr_ HO237); (case side4 => exact (Kd.R_reads' HO237.out).2.1); rintro e w29 ⟨rfl, hb⟩; refine ⟨_, rfl, ?_⟩; replace HO225 := rb_ HO225 hb; replace HO237 := rb_ HO237 hb; replace BK232 := kb_ BK232 hb; replace HB := hb_ hb; (try clear hb); (try clear hb2); (try clear hk); (try clear hi)) | ((with_reducible refine gate_callee (f := 9) rfl ?_); refine gl_ (some 31) Try.func9 #[.slice Ao21 t223.length co21, .int .u32 1] ?_; (with_reducible refine (dirs_List.calls k _ _ t223 1 t240 t241 _ ?side1 ?side2 A5.out).mono ?_); (case side1 => exact cr_ HO225); (case side2 => exact (Kd.R_reads' HO225.out).2.1); rintro e w30 ⟨v242, rfl, ho0, hb⟩; refine ⟨_, rfl, ?_⟩; have HO243 := rl_ ho0; replace HO225 := rb_ HO225 hb; replace HO237 := rb_ HO237 hb; replace BK232 := kb_ BK232 hb; replace HB := hb_ hb; (try clear hb); (try clear hb2); (try clear hk); (try clear hi); (try clear ho0)) | ((with_reducible refine gate_callee (f := 12) rfl ?_); refine gl_ (some 36) Try.func12 #[.slice Ao21 t223.length co21] ?_; (with_reducible refine (dirs_Next.calls k _ _ t223 t244 t245 _ ?side1 ?side2 A6.out).mono ?_); (case side1 => exact cr_ HO225); (case side2 => exact (Kd.R_reads' HO225.out).2.1); rintro e w31 ⟨rfl, hb⟩; refine ⟨_, rfl, ?_⟩; replace HO225 := rb_ HO225 hb; replace HO237 := rb_ HO237 hb; replace HO243 := rb_ HO243 hb; replace BK232 := kb_ BK232 hb; replace HB := hb_ hb; (try clear hb); (try clear hb2); (try clear hk); (try clear hi)) | (go_at_call 11; (with_reducible refine (dirs_Check.calls k _ _ t223 t246 _ ?side1 ?side2 A8.out).mono ?_); (case side1 => exact cr_ HO225); (case side2 => exact (Kd.R_reads' HO225.out).2.1); rintro e w32 ⟨rfl, hb⟩; replace HO225 := rb_ HO225 hb; replace HO237 := rb_ HO237 hb; replace HO243 := rb_ HO243 hb; replace BK232 := kb_ BK232 hb; replace HB := hb_ hb; (try clear hb); (try clear hb2); (try clear hk); (try clear hi); obtain ⟨hcz33_0, hcz33_1, hcz33_2, hcz33_3, hcz33_4⟩ := cl5_ BK232; obtain ⟨hfz33_0, hfz33_1, hfz33_2, hfz33_3, hfz33_4⟩ := fz5_ BK232; obtain ⟨Ao34, co34, eo34⟩ := Kd.R_slice HO243.out; subst eo34) | (go_at_call 11; (refine (dirs_Check.calls k _ _ ([] : List (S61)) t247 _ ?side1 ?side2 A19.out).mono ?_); (case side1 => exact Kd.C_nil _ _); (case side2 => exact Nat.le_refl _); rintro e w35 ⟨rfl, hb⟩; replace HO225 := rb_ HO225 hb; replace HO237 := rb_ HO237 hb; replace HO243 := rb_ HO243 hb; replace BK232 := kb_ BK232 hb; replace HB := hb_ hb; (try clear hb); (try clear hb2); (try clear hk); (try clear hi)))
                        go_ret
                        exact ⟨by first | rfl | (simp [errW_none, errW_some] <;> rfl) | (simp [*, errW_none, errW_some] <;> rfl), bel_⟩
                      rw [if_neg c18] at H
                      have c18b0 : (t245 == 0) = false := beq_eq_false_iff_ne.mpr c18
                      have c18b1 : (t245 != 0) = true := bne_iff_ne.mpr c18
                      exact absurd ((Option.some.inj H).trans HT_.out) (by simp)
                    rw [if_neg c17] at H
                    have c17b0 : (t244 == 2) = false := beq_eq_false_iff_ne.mpr c17
                    have c17b1 : (t244 != 2) = true := bne_iff_ne.mpr c17
                    exact absurd ((Option.some.inj H).trans HT_.out) (by simp)
                  rw [if_neg c16] at H
                  have c16b0 : (t241 == 0) = false := beq_eq_false_iff_ne.mpr c16
                  have c16b1 : (t241 != 0) = true := bne_iff_ne.mpr c16
                  exact absurd ((Option.some.inj H).trans HT_.out) (by simp)
                rw [if_neg c15] at H
                have c15b0 : ((t240.length : Int) == 0) = false := beq_eq_false_iff_ne.mpr c15
                have c15b1 : ((t240.length : Int) != 0) = true := bne_iff_ne.mpr c15
                have c15b2 : ¬ (t240 = []) := fun h_ => c15 (by rw [h_]; rfl)
                exact absurd ((Option.some.inj H).trans HT_.out) (by simp)
              rw [if_neg c14] at H
              have c14b0 : (t239 == 5) = false := beq_eq_false_iff_ne.mpr c14
              have c14b1 : (t239 != 5) = true := bne_iff_ne.mpr c14
              exact absurd ((Option.some.inj H).trans HT_.out) (by simp)
            rw [if_neg c13] at H
            have c13b0 : (t234 == 0) = false := beq_eq_false_iff_ne.mpr c13
            have c13b1 : (t234 != 0) = true := bne_iff_ne.mpr c13
            exact absurd ((Option.some.inj H).trans HT_.out) (by simp)
          rw [if_neg c12] at H
          have c12b0 : (t233 == 1) = false := beq_eq_false_iff_ne.mpr c12
          have c12b1 : (t233 != 1) = true := bne_iff_ne.mpr c12
          exact absurd ((Option.some.inj H).trans HT_.out) (by simp)
        rw [if_neg c11] at H
        have c11b0 : (t231 == 0) = false := beq_eq_false_iff_ne.mpr c11
        have c11b1 : (t231 != 0) = true := bne_iff_ne.mpr c11
        exact absurd ((Option.some.inj H).trans HT_.out) (by simp)
      rw [if_neg c10] at H
      have c10b0 : (t226 == 1) = false := beq_eq_false_iff_ne.mpr c10
      have c10b1 : (t226 != 1) = true := bne_iff_ne.mpr c10
      exact absurd ((Option.some.inj H).trans HT_.out) (by simp)
    rw [if_neg c9] at H
    have c9b0 : (t246 == 0) = false := beq_eq_false_iff_ne.mpr c9
    have c9b1 : (t246 != 0) = true := bne_iff_ne.mpr c9
    exact absurd ((Option.some.inj H).trans HT_.out) (by simp)
  rw [if_neg c7] at H
  have c7b0 : ((t223.length : Int) == 1) = false := beq_eq_false_iff_ne.mpr c7
  have c7b1 : ((t223.length : Int) != 1) = true := bne_iff_ne.mpr c7
  exact absurd ((Option.some.inj H).trans HT_.out) (by simp)

end Go.Proofs.Ytpnmajblhgnkoaa.Z
end

section
/- dirs: what is true of going along names in a right volume; 'lives' is true (by hand). -/
namespace Go.Proofs.Ytpnmajblhgnkoaa.Z
open Go.RowKit Go.Proofs.YtpnmajblhgnkoaaW.PrintWords Go.Proofs.YtpnmajblhgnkoaaW.PrintLast Go.Proofs.YtpnmajblhgnkoaaW.PrintMore Go.Proofs.Ytpnmajblhgnkoaa.PM
set_option linter.unusedVariables false
set_option linter.unusedSimpArgs false
theorem goS_link {l : List It} {s : VS} {follow : Bool} {rec : Option (List ByteArray → Int × Int)} {x : ByteArray} {r : List ByteArray} {a : Int} (h : (goS l s follow rec (x :: r) a).2 = 0) : s.kd a = 1 ∧ entryS l a x ≠ 0 := by
  rw [goS] at h
  by_cases hd : s.kd a = 1
  · rw [if_pos hd] at h
    refine ⟨hd, fun ht => ?_⟩
    rw [if_pos ht] at h
    exact absurd h (by decide)
  · rw [if_neg hd] at h
    exact absurd h (by decide)
theorem linkS_some {R : List ByteArray → Int × Int} {p : List ByteArray × Int} {r : List ByteArray} : linkS (some R) p r = if p.2 = 0 then R (p.1 ++ r) else (0, p.2) := rfl
/-- Where one comes to is there. -/
theorem walk_is {l : List It} {s : VS} (h : Rt l s) (f : Bool) : ∀ (b : Nat) (ns : List ByteArray) (a : Int), (s.ino a).isSome = true → (walkS l s f b ns a).2 = 0 → (s.ino (walkS l s f b ns a).1).isSome = true := by
  have root : (s.ino 1).isSome = true := by
    have := h.root
    cases hn : s.ino 1 with
    | none => rw [hn] at this; exact absurd this (by decide)
    | some n => rfl
  have go : ∀ (rec : Option (List ByteArray → Int × Int)), (rec = none ∨ ∃ R, rec = some R ∧ ∀ m, (R m).2 = 0 → (s.ino (R m).1).isSome = true) →
      ∀ (ns : List ByteArray) (a : Int), (s.ino a).isSome = true → (goS l s f rec ns a).2 = 0 → (s.ino (goS l s f rec ns a).1).isSome = true := by
    intro rec hr ns
    induction ns with
    | nil => intro a ha _; exact ha
    | cons x r ih =>
      intro a ha h0
      have hg := goS_link h0
      rw [goS, if_pos hg.1, if_neg hg.2] at h0 ⊢
      by_cases hk : s.kd (entryS l a x) = 3 ∧ ¬ (r = [] ∧ f = false)
      · rw [if_pos hk] at h0 ⊢
        rcases hr with rfl | ⟨R, rfl, hR⟩
        · exact absurd h0 (by simp [linkS])
        · rw [linkS_some] at h0 ⊢
          by_cases hz : (tgS s (entryS l a x)).2 = 0
          · rw [if_pos hz] at h0 ⊢; exact hR _ h0
          · rw [if_neg hz] at h0; exact absurd h0 hz
      · rw [if_neg hk] at h0 ⊢
        have hp := h.pos ha
        exact ih _ (h.to ⟨by omega, hp.2⟩ hg.2) h0
  intro b
  induction b with
  | zero => exact fun ns a ha h0 => go none (.inl rfl) ns a ha h0
  | succ c ih => exact fun ns a ha h0 => go _ (.inr ⟨_, rfl, fun m hm => ih m 1 root hm⟩) ns a ha h0
/-- One name more. -/
theorem walk_more (l : List It) (s : VS) (x : ByteArray) (at_ : Int) (hd : s.kd at_ = 1) : ∀ (b : Nat) (ns : List ByteArray) (a : Int), walkS l s true b ns a = (at_, 0) → walkS l s false b (ns ++ [x]) a = if entryS l at_ x = 0 then (0, 5) else (entryS l at_ x, 0) := by
  have go : ∀ (rt rf : Option (List ByteArray → Int × Int)), (rt = none ∨ ∃ Rt Rf, rt = some Rt ∧ rf = some Rf ∧ ∀ m, Rt m = (at_, 0) → Rf (m ++ [x]) = if entryS l at_ x = 0 then (0, 5) else (entryS l at_ x, 0)) →
      ∀ (ns : List ByteArray) (a : Int), goS l s true rt ns a = (at_, 0) → goS l s false rf (ns ++ [x]) a = if entryS l at_ x = 0 then (0, 5) else (entryS l at_ x, 0) := by
    intro rt rf hr ns
    induction ns with
    | nil =>
      intro a h
      have e : a = at_ := congrArg Prod.fst h
      subst e
      rw [List.nil_append, goS, if_pos hd]
      by_cases ht : entryS l a x = 0
      · rw [if_pos ht, if_pos ht]
      · rw [if_neg ht, if_neg ht, if_neg (by simp)]
        rfl
    | cons y r ih =>
      intro a h
      have hg := goS_link (l := l) (s := s) (follow := true) (rec := rt) (x := y) (r := r) (a := a) (by rw [h])
      rw [List.cons_append, goS, if_pos hg.1, if_neg hg.2]
      rw [goS, if_pos hg.1, if_neg hg.2] at h
      by_cases hk : s.kd (entryS l a y) = 3
      · rw [if_pos ⟨hk, by simp⟩] at h ⊢
        rcases hr with rfl | ⟨Rt, Rf, rfl, rfl, hR⟩
        · exact absurd (congrArg Prod.snd h) (by simp [linkS])
        · rw [linkS_some] at h ⊢
          by_cases hz : (tgS s (entryS l a y)).2 = 0
          · rw [if_pos hz] at h ⊢
            rw [← List.append_assoc]
            exact hR _ h
          · rw [if_neg hz] at h; exact absurd (congrArg Prod.snd h) hz
      · rw [if_neg (fun h' => hk h'.1)] at h ⊢
        exact ih _ h
  intro b
  induction b with
  | zero => exact fun ns a h => go none none (.inl rfl) ns a h
  | succ c ih => exact fun ns a h => go _ _ (.inr ⟨_, _, rfl, rfl, fun m hm => ih m 1 hm⟩) ns a h
theorem walk_range (l : List It) (s : VS) (f : Bool) : ∀ (b : Nat) (ns : List ByteArray) (a : Int), (0 ≤ a ∧ a < 4294967296) → 0 ≤ (walkS l s f b ns a).1 ∧ (walkS l s f b ns a).1 < 4294967296 := by
  have go : ∀ (rec : Option (List ByteArray → Int × Int)), (rec = none ∨ ∃ R, rec = some R ∧ ∀ m, 0 ≤ (R m).1 ∧ (R m).1 < 4294967296) →
      ∀ (ns : List ByteArray) (a : Int), (0 ≤ a ∧ a < 4294967296) → 0 ≤ (goS l s f rec ns a).1 ∧ (goS l s f rec ns a).1 < 4294967296 := by
    intro rec hr ns
    induction ns with
    | nil => intro a ha; exact ha
    | cons x r ih =>
      intro a ha
      rw [goS]
      by_cases hd : s.kd a = 1
      · rw [if_pos hd]
        by_cases ht : entryS l a x = 0
        · rw [if_pos ht]; exact ⟨by decide, by decide⟩
        · rw [if_neg ht]
          by_cases hk : s.kd (entryS l a x) = 3 ∧ ¬ (r = [] ∧ f = false)
          · rw [if_pos hk]
            rcases hr with rfl | ⟨R, rfl, hR⟩
            · exact ⟨by simp [linkS], by simp [linkS]⟩
            · rw [linkS_some]
              by_cases hz : (tgS s (entryS l a x)).2 = 0
              · rw [if_pos hz]; exact hR _
              · rw [if_neg hz]; exact ⟨Int.le_refl 0, show (0 : Int) < 4294967296 by decide⟩
          · rw [if_neg hk]; exact ih _ (entryS_range l a x)
      · rw [if_neg hd]; exact ⟨by decide, by decide⟩
  intro b
  induction b with
  | zero => exact fun ns a ha => go none (.inl rfl) ns a ha
  | succ c ih => exact fun ns a ha => go _ (.inr ⟨_, rfl, fun m => ih m 1 ⟨by decide, by decide⟩⟩) ns a ha
theorem walkR_range (l : List It) (f : Bool) (ns : List ByteArray) : 0 ≤ (walkR l ns f).1 ∧ (walkR l ns f).1 < 4294967296 := by
  unfold walkR
  cases lookS l with
  | none => exact ⟨Int.le_refl 0, show (0 : Int) < 4294967296 by decide⟩
  | some s => exact walk_range l s f 8 ns 1 ⟨by decide, by decide⟩
/-! ### What a directory has -/
theorem list_mem {l : List It} {s : VS} (h : Rt l s) {a : Int} {e : S34} (he : e ∈ listS s a) : entryS l a e.f0 = e.f1 ∧ e.f1 ≠ 0 ∧ (s.ino e.f1).isSome = true ∧ e.f2 = s.kd e.f1 := by
  unfold listS at he
  obtain ⟨x, hx, rfl⟩ := List.mem_map.1 he
  obtain ⟨hx, hq⟩ := List.mem_filter.1 hx
  rw [h.inv.all] at hx
  obtain ⟨y, hy, rfl⟩ := List.mem_map.1 hx
  simp only [Bool.and_eq_true, beq_iff_eq] at hq
  have hk := h.kept hy hq.1
  rw [hq.2] at hk
  have hp := h.pos hk.2.2.1
  exact ⟨hk.1, fun h0 => by
    have : numS y.f1 = 0 := h0
    omega, hk.2.2.1, rfl⟩
theorem list_has {l : List It} {s : VS} (h : Rt l s) {a : Int} (ha : 0 ≤ a ∧ a < 4294967296) {nm : ByteArray} (ht : entryS l a nm ≠ 0) : ∃ e ∈ listS s a, e.f0 = nm := by
  obtain ⟨x, hx, h2, h1, hn, _⟩ := h.entry ha ht
  refine ⟨entS s (keptS x), ?_, hn⟩
  unfold listS
  refine List.mem_map_of_mem (List.mem_filter.2 ⟨?_, by simp [h2, h1]⟩)
  rw [h.inv.all]
  exact List.mem_map_of_mem hx
theorem list_asc {l : List It} {s : VS} (h : Rt l s) (a : Int) : (listS s a).Pairwise (fun e f => Op.bytesLess e.f0.toList f.f0.toList = true) := by
  unfold listS
  rw [h.inv.all, List.pairwise_map, List.pairwise_filter, List.pairwise_map]
  refine List.Pairwise.imp_of_mem (fun {x y} hx hy hlt hqx hqy => ?_) ((okL_iff l).1 h.ok).2
  simp only [Bool.and_eq_true, beq_iff_eq] at hqx hqy
  have kx := (okP_key (h.inv.ok x hx)).2.1
  have ky := (okP_key (h.inv.ok y hy)).2.1
  unfold key at hlt
  rw [ByteArray.toList_eq, ByteArray.toList_eq, ← kx, ← ky, hqx.1, hqx.2, hqy.1, hqy.2] at hlt
  unfold keyL at hlt
  rw [bl_pre, if_neg (by decide), if_neg (by decide)] at hlt
  show Op.bytesLess (keptS x).f2.toList (keptS y).f2.toList = true
  rw [ByteArray.toList_eq, ByteArray.toList_eq]
  exact hlt
theorem Rt.root1 {l : List It} {s : VS} (h : Rt l s) : (s.ino 1).isSome = true := by
  have := h.root
  cases hn1 : s.ino 1 with
  | none => rw [hn1] at this; exact absurd this (by decide)
  | some m => rfl
theorem get_f {l : List It} {s : VS} (hf : Fit l) (hl : l.length ≤ 4398046511103) (hs : lookS l = some s) {a : Int} (ha : (s.ino a).isSome = true) : Ev (fun k => dirs_Get.f k l a) (s.kd a, ((s.ino a).getD zI).md, ((s.ino a).getD zI).ln, ((s.ino a).getD zI).sz, ((s.ino a).getD zI).tg, 0) := by
  have hp := (look_rt hs).pos ha
  refine Ev.val (Get_f hf hl ⟨by omega, hp.2⟩) ?_
  obtain ⟨m, hm⟩ := Option.isSome_iff_exists.1 ha
  unfold getR VS.kd
  rw [hs]
  simp only [hm]
  rfl
theorem rd_ent (l : List S34) (i : Nat) (h : i < l.length) : rd_T34 l (i : Int) = l[i] := by
  unfold rd_T34
  rw [Int.toNat_natCast, List.getD_eq_getElem?_getD, List.getElem?_eq_getElem h, Option.getD_some]
/-! ### lives -/
def newI : It := ⟨ba (keyL 1 1 [] 0), ba (enc 1 0 1 0 [])⟩
theorem New_f : Ev (fun k => dirs_New.f k) [newI] := by
  unfold dirs_New.f
  refine Ev.bind (key_f 1 1 ⟨#[]⟩ 0 (by decide) ⟨by decide, by decide⟩ (by decide)) ?_
  refine Ev.bind (encode_f 1 0 1 0 ⟨#[]⟩ ⟨by decide, by decide⟩ ⟨by decide, by decide⟩ ⟨by decide, by decide⟩ ⟨by decide, by decide⟩) ?_
  exact Ev.const rfl
theorem new_ok : okL [newI] = true := by
  rw [okL_iff]
  refine ⟨fun x hx => ?_, by unfold Asc; simp⟩
  rw [List.mem_singleton.1 hx]
  unfold okI okK
  rw [ByteArray.toList_eq]
  decide
theorem new_look : lookS [newI] = some (addS VS0 newI) := by
  unfold lookS
  rw [show parseS [newI] VS0 = some (addS VS0 newI) by kernel_rfl]
  exact if_pos ⟨new_ok, by kernel_rfl, by kernel_rfl, by kernel_rfl⟩
theorem new_fit : Fit [newI] := fun x hx => by rw [List.mem_singleton.1 hx]; exact ⟨by decide, by decide⟩
theorem new_ino (a : Int) : (addS VS0 newI).ino a = if a = 1 then some ⟨1, 0, 1, 0, ⟨#[]⟩⟩ else none := by
  show (if a = (keptS newI).f1 then some (inoS newI.f1) else none) = _
  rw [show (keptS newI).f1 = 1 by kernel_rfl, show inoS newI.f1 = ⟨1, 0, 1, 0, ⟨#[]⟩⟩ by kernel_rfl]
theorem new_entry : entryS [newI] 1 ⟨#[97]⟩ = 0 := by
  unfold entryS
  rw [look_none (fun x hx => ?_)]
  · kernel_rfl
  · rw [List.mem_singleton.1 hx]
    show newI.f0.toList ≠ _
    rw [ByteArray.toList_eq]
    decide
theorem lives_f : Ev (fun k => cambiumlaw14_lives.f k) true := by
  unfold cambiumlaw14_lives.f
  have h1 : ([newI] : List It).length ≤ 4398046511103 := by decide
  have hw : ∀ ns, walkR [newI] ns true = walkS [newI] (addS VS0 newI) true 8 ns 1 := fun ns => by unfold walkR; rw [new_look]
  refine Ev.bind New_f (Ev.bind (Get_f new_fit h1 ⟨by decide, by decide⟩) (Ev.bind (Walk_f new_fit h1 [] (by decide) true) (Ev.bind (Walk_f new_fit h1 [⟨#[97]⟩] (by decide) true) (Ev.bind (List_f new_fit h1 ⟨by decide, by decide⟩) ?_))))
  have hn : Ev (fun k => dirs_Next.f k [newI]) (2, 0) := by
    unfold dirs_Next.f
    refine Ev.bind (look_f _ new_fit h1) ?_
    rw [new_look]
    refine Ev.bind (a := 2) ?_ (Ev.const rfl)
    refine Ev.step (fun k => by rw [nextL]) (Ev.ifn (by rw [new_ino]; decide) (Ev.const rfl))
  have e1 : walkS [newI] (addS VS0 newI) true 8 [] 1 = (1, 0) := rfl
  have e2 : walkS [newI] (addS VS0 newI) true 8 [⟨#[97]⟩] 1 = (0, 5) := by
    show goS _ _ _ _ _ _ = _
    rw [goS, if_pos (by show ((( addS VS0 newI).ino 1).getD zI).kd = 1; rw [new_ino]; rfl), new_entry, if_pos rfl]
  have e3 : getR (lookS [newI]) 1 = (1, 0, 1, 0, ⟨#[]⟩, 0) := by
    rw [new_look]
    unfold getR
    simp only [new_ino]
    rfl
  have e4 : listR (lookS [newI]) 1 = ([], 0) := by
    rw [new_look]
    unfold listR
    simp only [new_ino]
    rw [show listS (addS VS0 newI) 1 = [] by kernel_rfl]
    rfl
  refine Ev.bind hn ?_
  rw [hw, hw, e1, e2, e3, e4]
  refine Ev.ifp rfl ?_
  refine Ev.bind (Check_f new_fit h1) ?_
  rw [new_look]
  refine Ev.ifp rfl (Ev.ifp rfl (Ev.ifp rfl (Ev.ifp rfl (Ev.ifp rfl (Ev.ifp rfl (Ev.ifp rfl (Ev.ifp rfl (Ev.ifp rfl (Ev.ifp rfl ?_)))))))))
  refine Ev.bind (Check_f (l := []) (fun x hx => by cases hx) (by decide)) ?_
  rw [show lookS [] = none by unfold lookS; rw [show parseS [] VS0 = some VS0 from rfl]; exact if_neg (fun h => absurd h.2.1 (by decide))]
  exact Ev.const rfl
end Go.Proofs.Ytpnmajblhgnkoaa.Z
end

section
/- What a reading of an argument as data gives a contract: the values of a kind (Kd), well formed, and their bulk. -/
namespace Go.Proofs.Ytpnmajblhgnkoaa.Z
open Go.ChangeShapes Go.WideShapes Go.ChangeAt Go.RowKit Go.Deep Go.Proofs.YtpnmajblhgnkoaaW.PrintWords Go.Proofs.YtpnmajblhgnkoaaW.PrintLast
set_option linter.unusedVariables false
/-- Every reading of type t's cells is one of d, is G, and is of bulk B at least. -/
def Opens {α : Type} (P : Program) (t : TypeId) (d : Kd α) (G : α → Prop) (B : α → Nat) : Prop :=
  d.sz = P.cellsOf t ∧ ∀ {H : Type} {enc : TypeId × Value → H} {w : World} {base : Nat} {spare : Nat → Bool} {held : Bool} {fuel : Nat} {cs : List Value} {x : DataW H × List MemPlace},
    DataW.trod enc P w base spare held fuel t cs = some x → ∃ a, d.K w a cs ∧ G a ∧ B a ≤ Rows.uptoBulk x.1
theorem Opens.bool {P : Program} {t : TypeId} (ht : P.underlying t = some .bool) (hc : P.cellsOf t = 1) : Opens P t Kd.bool (fun _ => True) (fun _ => 1) := by
  refine ⟨hc.symm, fun h => ?_⟩
  obtain ⟨b, rfl, rfl⟩ := DataW.trod_bool ht h
  exact ⟨b, rfl, trivial, by simp [Rows.uptoBulk]⟩
theorem Opens.int {P : Program} {t : TypeId} {k : IntKind} (ht : P.underlying t = some (.int k)) (hc : P.cellsOf t = 1) : Opens P t (Kd.int k) (fun n => (Lit.int k n).wf = true) (fun _ => 1) := by
  refine ⟨hc.symm, fun h => ?_⟩
  obtain ⟨b, rfl, rfl, hw⟩ := DataW.trod_int ht h
  exact ⟨b, rfl, hw, by simp [Rows.uptoBulk]⟩
theorem Opens.string {P : Program} {t : TypeId} (ht : P.underlying t = some .string) (hc : P.cellsOf t = 1) : Opens P t Kd.string (fun s => s.size ≤ maxLen) (fun s => s.size + 1) := by
  refine ⟨hc.symm, fun h => ?_⟩
  obtain ⟨b, rfl, rfl, hw⟩ := DataW.trod_string ht h
  exact ⟨b, rfl, hw, by simp [Rows.uptoBulk]⟩
theorem bulk_len {H : Type} (l : List (DataW H)) {α : Type} {B : α → Nat} (xs : List α) (hl : xs.length = l.length) (h : ∀ (i : Nat) (a : α) (y : DataW H), xs[i]? = some a → l[i]? = some y → B a ≤ Rows.uptoBulk y) : (xs.map B).sum ≤ Rows.uptoBulkAll l := by
  induction l generalizing xs with
  | nil => have : xs = [] := List.eq_nil_of_length_eq_zero hl; subst this; simp [Rows.uptoBulkAll]
  | cons y l ih =>
    cases xs with
    | nil => simp at hl
    | cons a xs =>
      simp only [List.map_cons, List.sum_cons, Rows.uptoBulkAll]
      have h0 := h 0 a y rfl rfl
      have h1 := ih xs (by simpa using hl) (fun i a y ha hy => h (i + 1) a y (by simpa using ha) (by simpa using hy))
      omega
theorem list_of_each {α : Type} (p : Nat → α → Prop) : ∀ n : Nat, (∀ i, i < n → ∃ a, p i a) → ∃ l : List α, l.length = n ∧ ∀ i a, l[i]? = some a → p i a
  | 0, _ => ⟨[], rfl, fun i a h => by simp at h⟩
  | n + 1, h => by
    obtain ⟨l, hl, hp⟩ := list_of_each p n (fun i hi => h i (by omega))
    obtain ⟨a, ha⟩ := h n (by omega)
    refine ⟨l ++ [a], by simp [hl], fun i b hb => ?_⟩
    rcases Nat.lt_or_ge i l.length with hi | hi
    · rw [List.getElem?_append_left hi] at hb; exact hp i b hb
    · have hi2 : i = l.length := by
        have := (List.getElem?_eq_some_iff.1 hb).1
        simp at this; omega
      subst hi2
      have hb2 : a = b := by simpa using hb
      subst hb2
      rw [hl]; exact ha
/-- A slice, opened. -/
theorem Opens.row {α : Type} {P : Program} {t e : TypeId} {d : Kd α} {G : α → Prop} {B : α → Nat} (ht : P.underlying t = some (.slice e)) (hO : Opens P e d G B) (hpos : 0 < P.cellsOf e)
    {H : Type} {enc : TypeId × Value → H} {w : World} {base : Nat} {spare : Nat → Bool} {held : Bool} {fuel : Nat} {cs : List Value} {x : DataW H × List MemPlace} (h : DataW.trod enc P w base spare held fuel t cs = some x) :
    ∃ (A : Option Addr) (c : Nat) (l : List α), cs = [.slice A l.length c] ∧ l.length ≤ c ∧ c ≤ maxLen ∧ Kd.C d w A l.length l ∧ (∀ a ∈ l, G a) ∧ (l.map B).sum + 1 ≤ Rows.uptoBulk x.1 ∧ (x.1 = .nil ∧ l = [] ∨ ∃ el sp, x.1 = .slice el sp ∧ el.length = l.length) := by
  rcases DataW.trod_slice ht h with ⟨rfl, rfl⟩ | ⟨a, len, cap, elems, rest, n, _, rfl, rfl, hb, hl, hm, hlen, hel, _, _⟩
  · exact ⟨none, 0, [], rfl, Nat.le_refl _, Nat.zero_le _, Kd.C_nil _ _, by simp, by simp [Rows.uptoBulk], Or.inl ⟨rfl, rfl⟩⟩
  · have each : ∀ i, i < len → ∃ a' : α, ∃ cs' y, w.cells? base (a.add (i * P.cellsOf e)) (P.cellsOf e) = some cs' ∧ elems[i]? = some y ∧ d.K w a' cs' ∧ G a' ∧ B a' ≤ Rows.uptoBulk y.1 := by
      intro i hi
      have h1 := hel i hi
      obtain ⟨y, hy⟩ : ∃ y, elems[i]? = some y := ⟨elems[i]'(by omega), List.getElem?_eq_getElem (by omega)⟩
      rw [hy, Option.bind_eq_some_iff] at h1
      obtain ⟨cs', hcs, htr⟩ := h1
      obtain ⟨a', hK, hG, hB⟩ := hO.2 htr
      exact ⟨a', cs', y, hcs, hy, hK, hG, hB⟩
    obtain ⟨l, hll, hp⟩ := list_of_each _ len each
    subst hll
    refine ⟨some a, cap, l, rfl, hl, hm, ⟨rfl, by unfold maxLen at hm; omega, fun _ => ⟨a, rfl, fun j p hj => ?_⟩⟩, ?_, ?_, Or.inr ⟨_, _, rfl, by simpa using hlen⟩⟩
    · obtain ⟨cs', y, hcs, _, hK, _, _⟩ := hp j p hj
      obtain ⟨_, hln, hc⟩ := World.cells?_some hcs
      refine ⟨cs', by rw [hln, hO.1], hK, fun i u hu => ?_⟩
      have hi : i < P.cellsOf e := by rw [← hln]; exact (List.getElem?_eq_some_iff.1 hu).1
      have := hc i hi
      rw [hu] at this
      rw [hO.1, ← this]
      congr 1
      have hs : a.spot = none := by
        have h0 := hc 0 hpos
        rw [List.getElem?_eq_getElem (by omega)] at h0
        cases hsp : a.spot with
        | none => rfl
        | some s =>
          rcases Nat.eq_zero_or_pos (j * P.cellsOf e) with hz | hz
          · rw [hz] at h0
            have : w.cell? a = some _ := h0
            unfold World.cell? at this
            rw [hsp] at this
            split at this <;> simp at this
          · have hl0 : 0 < l.length := by have := (List.getElem?_eq_some_iff.1 hj).1; omega
            obtain ⟨p0, hp0⟩ : ∃ p0, l[0]? = some p0 := ⟨l[0], List.getElem?_eq_getElem hl0⟩
            obtain ⟨cs0, y0, hcs0, _, _, _, _⟩ := hp 0 p0 hp0
            obtain ⟨_, hln0, hc0⟩ := World.cells?_some hcs0
            have h00 := hc0 0 hpos
            rw [List.getElem?_eq_getElem (by omega), Nat.zero_mul] at h00
            have : w.cell? a = some _ := h00
            unfold World.cell? at this
            rw [hsp] at this
            split at this <;> simp at this
      obtain ⟨b, o, s⟩ := a
      simp only at hs
      subst hs
      rw [add_at, add_at, add_at, Nat.add_assoc]
    · intro b hb
      obtain ⟨i, hi⟩ := List.getElem?_of_mem hb
      exact (hp i b hi).choose_spec.choose_spec.2.2.2.1
    · simp only [Rows.uptoBulk]
      have := bulk_len (elems.map (·.1)) (B := B) l (by simp [hlen]) (fun i b y hb hy => by
        obtain ⟨cs', y', _, hy', _, _, hB⟩ := hp i b hb
        rw [List.getElem?_map, hy'] at hy
        simp at hy
        subst hy
        exact hB)
      omega
/-- A struct of fields of one cell: each field's cell and reading. -/
theorem flat_fields {P : Program} {t : TypeId} {fs : Array Field} (ht : P.underlying t = some (.struct fs)) (hone : oneCellFields P fs = true) (hC : P.cellsOf t = fs.size)
    {H : Type} {enc : TypeId × Value → H} {w : World} {base : Nat} {spare : Nat → Bool} {held : Bool} {fuel : Nat} {cs : List Value} {x : DataW H × List MemPlace} (h : DataW.trod enc P w base spare held fuel t cs = some x) :
    ∃ (ys : List (DataW H × List MemPlace)) (n : Nat), cs.length = fs.size ∧ ys.length = fs.size ∧ x.1 = .agg (ys.map (·.1)) ∧ ∀ (i : Nat) (f : Field) (c : Value), fs[i]? = some f → cs[i]? = some c → DataW.trod enc P w base spare held n f.type [c] = ys[i]? := by
  obtain ⟨xs, n, _, rfl, hl, hlen, hf⟩ := DataW.trod_struct ht h
  refine ⟨xs, n, hl.trans hC, hlen, rfl, fun i f c hfi hc => ?_⟩
  have h1 := hf i f hfi
  obtain ⟨o0, k0⟩ := hone_of hone i f hfi
  rw [o0, k0] at h1
  rw [← h1]
  congr 1
  have hi := (List.getElem?_eq_some_iff.1 hc).1
  rw [List.drop_eq_getElem_cons hi, List.take_succ_cons, List.take_zero]
  rw [List.getElem?_eq_getElem hi] at hc
  simp at hc
  rw [hc]
/-- A slice among the arguments: its length, by the form's reach. -/
theorem sized_row {H : Type} {P : Program} {ts : List TypeId} {ds : List (DataW H)} {j : Nat} {t e : TypeId} {d : DataW H} {α : Type} {l : List α}
    (hsz : (DataW.weightsEach P ts ds).all (· ≤ reachBytes) = true) (ht : ts[j]? = some t) (hd : ds[j]? = some d) (hu : P.underlying t = some (.slice e)) {b : Nat} (hb : P.bytesOf e = b)
    (hx : d = .nil ∧ l = [] ∨ ∃ el sp, d = .slice el sp ∧ el.length = l.length) : l.length * b ≤ 140737488351232 := by
  rcases hx with ⟨_, rfl⟩ | ⟨el, sp, rfl, hl⟩
  · simp
  · have := sized_slice hsz ht hd hu
    rw [hb, hl] at this
    exact Nat.le_trans (Nat.mul_le_mul_right _ (Nat.le_add_right _ _)) this
end Go.Proofs.Ytpnmajblhgnkoaa.Z
end

section
-- Printed by a program of this session (mp.py): what a reading gives of the kinds that are arguments.
namespace Go.Proofs.Ytpnmajblhgnkoaa.Z
open Go.ChangeShapes Go.WideShapes Go.ChangeAt Go.RowKit Go.Deep Go.Proofs.YtpnmajblhgnkoaaW.PrintWords
set_option linter.unusedVariables false
def G61 (x : S61) : Prop := x.f0.size ≤ maxLen ∧ x.f1.size ≤ maxLen
def B61 (x : S61) : Nat := (x.f0.size + 1) + (x.f1.size + 1) + 1
theorem opens61 : Opens Try.prog 61 k61 G61 B61 := by
  refine ⟨by kernel_rfl, fun {H enc w base spare held fuel cs x} h => ?_⟩
  obtain ⟨ys, n, hl, hy, hx, hf⟩ := flat_fields Try.underlying61 (by kernel_rfl) (by kernel_rfl) h
  match cs, hl with
  | [c0, c1], _ =>
    match ys, hy with
    | [y0, y1], _ =>
      obtain ⟨a0, k0, g0, b0⟩ := (Opens.string Try.underlying9 (by kernel_rfl)).2 (hf 0 _ c0 rfl rfl)
      obtain ⟨a1, k1, g1, b1⟩ := (Opens.string Try.underlying9 (by kernel_rfl)).2 (hf 1 _ c1 rfl rfl)
      refine ⟨⟨a0, a1⟩, ⟨[c0], [c1], rfl, k0, k1⟩, ⟨g0, g1⟩, ?_⟩
      rw [hx]
      simp only [Rows.uptoBulk, Rows.uptoBulkAll, List.map_cons, List.map_nil, B61]
      dsimp only at b0 b1
      omega
end Go.Proofs.Ytpnmajblhgnkoaa.Z
end
