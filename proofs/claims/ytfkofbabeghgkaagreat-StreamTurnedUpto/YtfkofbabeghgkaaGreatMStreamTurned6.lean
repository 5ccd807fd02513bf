/- StreamTurnedUpto: at every input the law's function returns true and leaves its arguments as they were; condition: the arguments are of bulk at most 1048576. Part 6 of 6: this session's own texts, laid together. -/
import Derived.Laws.IdiomStrings
import Derived.Test.YtfkofbabeghgkaaGreatMB5
import Derived.Test.YtfkofbabeghgkaaGreatMB3
import Derived.Test.YtfkofbabeghgkaaGreatRows
import Derived.WalkKit
import Derived.ProofKit
import Derived.OpenShut
import Derived.ShutString
import Derived.ChangeOld
import Derived.Below
import Derived.SizedLaws
import Derived.Carry
import Derived.JoinedCond
import Derived.Deep.CondSized
open Go.RowKit Go.Proofs.YtfkofbabeghgkaaGreatW.PrintWords Go.Proofs.YtfkofbabeghgkaaGreatW.PrintLast Go.Proofs.YtfkofbabeghgkaaGreatW.PrintMore
set_option linter.unusedVariables false
set_option linter.unusedSimpArgs false
section
namespace Go.Proofs.YtfkofbabeghgkaaGreat.Z
open Go.Proofs.YtfkofbabeghgkaaGreat.PM
theorem conv_event {ops : Array Oper} {rest : List Oper} {o : Oper} {a : Act} {Q : Exit → Act → World → Prop} {W : World} (hgd : o.guard = none) (x : Operand) (hop : o.op = .convert 9 35 x) (s : ByteArray) (hx : a.eval x = .string s)
    (h : ∀ g cap, g = W.heap.size → ∀ w1 lo hi, w1.heap[g]? = some (.cells (bytesRow s cap) 5 (lo, hi)) → s.size ≤ lo → Below W.heap.size W w1 → wpList Tryz.prog ops Q rest (a.put o.dst (.slice (some ⟨g, 0, none⟩) s.size cap)) w1) : wpList Tryz.prog ops Q (o :: rest) a W := by
  have hr := run_bytes_of_string (P := Tryz.prog) W 9 35 5 s Tryz.underlying9 Tryz.underlying35 Tryz.underlying5
  refine Kd.event_run hgd (v := .slice (some ⟨W.heap.size, 0, none⟩) s.size (grownCap W s.size 0 5)) (w1 := W.drew.alloc (.cells (bytesRow s (grownCap W s.size 0 5)) 5 ((bytesRow s (grownCap W s.size 0 5)).size, (bytesRow s (grownCap W s.size 0 5)).size + 1))) ?_ (h _ _ rfl _ _ _ (blk_new W.drew _) ?_ (below_alloc (below_drew1 (Below.refl _ _)) _))
  · unfold execOp
    simp [hop, hx, hr]
  · unfold bytesRow
    simp
theorem blk_setF {w : World} {g : Nat} {cs : Array Value} {T : TypeId} {fr : Nat × Nat} (h : w.heap[g]? = some (.cells cs T fr)) (j : Nat) (u : Value) : (w.setCell ⟨g, j, none⟩ u).heap[g]? = some (.cells (cs.setIfInBounds j u) T fr) := by
  simp [World.setCell, Array.getElem?_modify, h]
theorem frz_lo {w : World} {g j lo hi : Nat} {cs : Array Value} {T : TypeId} (h : w.heap[g]? = some (.cells cs T (lo, hi))) (hj : j < lo) : w.frozen? ⟨g, j, none⟩ = false := by
  simp [World.frozen?, h]
  omega
theorem conv_back {W : World} {g cap n : Nat} {t : List UInt8} {cs : Array Value} {fr : Nat × Nat} (hg : W.heap[g]? = some (.cells cs 5 fr)) (hc : ∀ j (hj : j < t.length), cs[j]? = some (.int .u8 ((t[j]'hj).toNat : Int))) (hn : n = t.length) :
    (convert 35 9 (.slice (some ⟨g, 0, none⟩) n cap)).run Tryz.prog W = .ok (.string (ba t)) W := by
  subst hn
  exact run_convert_bytes_back (P := Tryz.prog) W 35 9 5 ⟨g, 0, none⟩ cap t Tryz.underlying35 Tryz.underlying5 Tryz.underlying9 (fun j hj => by rw [add_at, Nat.zero_add, Lib.cell_of_heap hg, hc j hj])
theorem ofNat8 {a : Nat} (h : a < 256) : (BitVec.ofInt 8 (a : Int)).toNat = a := by
  rw [BitVec.ofInt_natCast, BitVec.toNat_ofNat]; exact Nat.mod_eq_of_lt h
theorem xor8 {a b : Nat} (ha : a < 256) (hb : b < 256) : Go.bits .xor .u8 (a : Int) (b : Int) = ((a ^^^ b : Nat) : Int) := by
  have hx : a ^^^ b < 2 ^ 8 := Nat.xor_lt_two_pow (n := 8) ha hb
  show IntKind.u8.wrap ((BitVec.ofInt 8 (a : Int) ^^^ BitVec.ofInt 8 (b : Int)).toNat : Int) = _
  rw [BitVec.toNat_xor, ofNat8 ha, ofNat8 hb, IntKind.wrap_u8]
  omega
theorem turn_byte (x m : Nat) (hx : x < 256) (hm : m < 8) : ∃ y, y < 256 ∧ Go.bits .xor .u8 ((x : Nat) : Int) (((2 ^ m : Nat) : Int)) = ((y : Nat) : Int) ∧ x ≠ y := by
  have hp : 2 ^ m < 256 := Nat.pow_lt_pow_right (a := 2) (by decide) hm
  refine ⟨x ^^^ 2 ^ m, Nat.xor_lt_two_pow (n := 8) hx hp, xor8 hx hp, fun e => ?_⟩
  have h0 : (2 ^ m) ^^^ x = 0 ^^^ x := by rw [Nat.zero_xor, Nat.xor_comm]; exact e.symm
  have := xor_cancel h0
  have := Nat.pow_pos (n := m) (show 0 < 2 by decide)
  omega
open Classical in
noncomputable def cambiumlaw18_StreamTurned.f (l0 l1 : List S77) (a2 a3 : Int) : Option Bool := if Sm l0 ∧ Sm l1 ∧ 0 ≤ a3 ∧ a3 < 256 then some true else none
set_option maxRecDepth 100000 in
set_option maxHeartbeats 6400000 in
theorem cambiumlaw18_StreamTurned.calls (A0 : Option Addr) (c0 : Nat) (l0 : List S77) (A1 : Option Addr) (c1 : Nat) (l1 : List S77) (a2 a3 : Int) (r : Bool) (w : World) (hr0 : Kd.C k77 w A0 l0.length l0) (hc0 : l0.length ≤ c0) (hr1 : Kd.C k77 w A1 l1.length l1) (hc1 : l1.length ≤ c1) (h : cambiumlaw18_StreamTurned.f l0 l1 a2 a3 = some r) :
    Calls Tryz.prog 5 #[.slice A0 l0.length c0, .slice A1 l1.length c1, .int .i64 a2, .int .u8 a3] w fun e w' => e = .returned (.bool r) ∧ Below w.heap.size w w' := by
  unfold cambiumlaw18_StreamTurned.f at h
  by_cases hsm : Sm l0 ∧ Sm l1 ∧ 0 ≤ a3 ∧ a3 < 256
  rotate_left
  · rw [if_neg hsm] at h; cases h
  rw [if_pos hsm] at h
  obtain rfl := Option.some.inj h
  clear h
  have HC0 := ak_ hr0
  have HP0 := ak_ hc0
  have HC1 := ak_ hr1
  have HP1 := ak_ hc1
  clear hr0 hc0 hr1 hc1
  cases hs : sendB mkY rtB l0 l1 with
  | none =>
    obtain ⟨k1, h1⟩ := send_no hsm.1 hsm.2.1 hs
    have H1 := ak_ h1
    clear hs h1
    go_enter Tryz.func5, Tryz.ntmps5
    go_wp2_with (first
      | (go_at_call 18; refine (cambiumlaw18_lives.calls true _ rfl).mono ?_; rintro e w1 ⟨rfl, hb⟩; have B1 := ak_ hb; clear hb)
      | (go_at_call 10; (with_reducible refine (stream_Send.calls k1 A0 c0 l0 A1 c1 l1 ⟨#[]⟩ 9 _ (Kd.C_below HC0.out B1.out) HP0.out (Kd.C_below HC1.out B1.out) HP1.out H1.out).mono ?_); rintro e w2 ⟨rfl, hb⟩; have B2 := ak_ (below_step B1.out hb); clear hb))
    go_ret
    exact ⟨rfl, B2.out⟩
  | some s =>
    obtain ⟨hoa, hob, hrb, hma, _, hrd⟩ := send_parts hsm.1 hsm.2.1 hs
    have hln := send_len hsm.1 hsm.2.1 hs
    obtain ⟨k1, h1⟩ := send_yes hsm.1 hsm.2.1 hs
    obtain ⟨S, hS⟩ : ∃ S, S = ba s := ⟨_, rfl⟩
    have hz : S.size = s.length := by rw [hS, ba_size]
    rw [← hS] at h1
    have H1 := ak_ h1
    clear h1
    by_cases hlo : a2 < 0
    · have d1 : decide (a2 < 0) = true := decide_eq_true hlo
      clear hs hS hz hsm hoa hob hrb hma hrd hln hlo
      go_enter Tryz.func5, Tryz.ntmps5
      go_wp2_with (first
        | (go_at_call 18; refine (cambiumlaw18_lives.calls true _ rfl).mono ?_; rintro e w1 ⟨rfl, hb⟩; have B1 := ak_ hb; clear hb)
        | (go_at_call 10; (with_reducible refine (stream_Send.calls k1 A0 c0 l0 A1 c1 l1 S 0 _ (Kd.C_below HC0.out B1.out) HP0.out (Kd.C_below HC1.out B1.out) HP1.out H1.out).mono ?_); rintro e w2 ⟨rfl, hb⟩; have B2 := ak_ (below_step B1.out hb); clear hb))
      go_ret
      exact ⟨rfl, B2.out⟩
    by_cases hhi : a2 ≥ (S.size : Int)
    · have d1 : decide (a2 < 0) = false := decide_eq_false hlo
      have d2 : decide (a2 ≥ (S.size : Int)) = true := decide_eq_true hhi
      have d3 : decide ((S.size : Int) ≤ a2) = true := decide_eq_true hhi
      clear hs hS hz hsm hoa hob hrb hma hrd hln hlo hhi
      go_enter Tryz.func5, Tryz.ntmps5
      go_wp2_with (first
        | (go_at_call 18; refine (cambiumlaw18_lives.calls true _ rfl).mono ?_; rintro e w1 ⟨rfl, hb⟩; have B1 := ak_ hb; clear hb)
        | (go_at_call 10; (with_reducible refine (stream_Send.calls k1 A0 c0 l0 A1 c1 l1 S 0 _ (Kd.C_below HC0.out B1.out) HP0.out (Kd.C_below HC1.out B1.out) HP1.out H1.out).mono ?_); rintro e w2 ⟨rfl, hb⟩; have B2 := ak_ (below_step B1.out hb); clear hb))
      go_ret
      exact ⟨rfl, B2.out⟩
    · have d1 : decide (a2 < 0) = false := decide_eq_false hlo
      have d2 : decide (a2 ≥ (S.size : Int)) = false := decide_eq_false hhi
      have d3 : decide ((S.size : Int) ≤ a2) = false := decide_eq_false hhi
      obtain ⟨i, hi⟩ : ∃ i : Nat, (i : Int) = a2 := ⟨a2.toNat, by omega⟩
      subst hi
      have hil : i < s.length := by omega
      obtain ⟨x, hx⟩ : ∃ x, x = s[i]'hil := ⟨_, rfl⟩
      obtain ⟨m, hm⟩ : ∃ m : Nat, m = a3.toNat % 8 := ⟨_, rfl⟩
      have hm8 : m < 8 := by omega
      obtain ⟨yv, hyv, hy1, hy2⟩ := turn_byte x.toNat m x.toNat_lt hm8
      obtain ⟨y, hy⟩ : ∃ y : UInt8, y = UInt8.ofNat yv := ⟨_, rfl⟩
      have hyn : y.toNat = yv := by rw [hy, UInt8.toNat_ofNat']; exact Nat.mod_eq_of_lt hyv
      have hne : x ≠ y := fun e => hy2 (by rw [e, hyn])
      have hsp : s = s.take i ++ x :: s.drop (i + 1) := by rw [hx, ← List.drop_eq_getElem_cons hil, List.take_append_drop]
      rw [hsp] at hrd
      have hro := read_turned hne hrd
      obtain ⟨t, ht⟩ : ∃ t, t = s.take i ++ y :: s.drop (i + 1) := ⟨_, rfl⟩
      rw [← ht] at hro
      have htl : t.length = s.length := by rw [ht]; simp only [List.length_append, List.length_take, List.length_cons, List.length_drop]; omega
      obtain ⟨k2, h2⟩ := recv_no (s := t) hsm.1 (by omega) hma (recv_stop hro)
      obtain ⟨k3, h3⟩ := base_no (s := t) (by omega) hro
      obtain ⟨T, hT⟩ : ∃ T, T = ba t := ⟨_, rfl⟩
      rw [← hT] at h2 h3
      have H2 := ak_ h2
      have H3 := ak_ h3
      have HTS := ak_ (show T.size ≤ 4611686018427387904 by rw [hT, ba_size]; omega)
      have HXN := ak_ (show ∀ cap, (bytesRow S cap)[i]? = some (.int .u8 ((x.toNat : Nat) : Int)) from fun cap => by
        have hb : i < S.data.size := by show i < S.size; omega
        rw [bytesRow_at S cap i hb]
        have e : S.data[i] = x := by
          subst hS
          rw [hx]
          simp [ba]
        rw [e])
      have HTC := ak_ (show ∀ cap j (hj : j < t.length), ((bytesRow S cap).setIfInBounds i (.int .u8 ((y.toNat : Nat) : Int)))[j]? = some (.int .u8 ((t[j]'hj).toNat : Int)) from fun cap j hj => by
        have hjs : j < S.data.size := by show j < S.size; omega
        have hrow := bytesRow_at S cap j hjs
        have hsz := (Array.getElem?_eq_some_iff.1 hrow).1
        by_cases hij : i = j
        · subst hij
          rw [Array.getElem?_setIfInBounds_self_of_lt hsz]
          have e : t[i]'hj = y := by
            subst ht
            rw [List.getElem_append_right (by rw [List.length_take]; omega)]
            simp [List.length_take, Nat.min_eq_left (Nat.le_of_lt hil)]
          rw [e]
        · rw [Array.getElem?_setIfInBounds_ne hij, hrow]
          have e : S.data[j] = t[j]'hj := by
            subst hS
            have h1 : (ba s).data[j] = s[j]'(by omega) := by simp [ba]
            rw [h1]
            have h2 : t[j]? = s[j]? := by
              rw [ht]
              by_cases hlt : j < i
              · rw [List.getElem?_append_left (by rw [List.length_take]; omega), List.getElem?_take, if_pos hlt]
              · have h3 : (s.take i).length = i := by rw [List.length_take]; omega
                rw [List.getElem?_append_right (by omega), h3]
                obtain ⟨q, hq⟩ : ∃ q, j - i = q + 1 := ⟨j - i - 1, by omega⟩
                rw [hq, List.getElem?_cons_succ, List.getElem?_drop]
                congr 1
                omega
            rw [List.getElem?_eq_getElem hj, List.getElem?_eq_getElem (by omega)] at h2
            exact (Option.some.inj h2).symm
          rw [e])
      have HTL := ak_ (show S.size = t.length by omega)
      have d4 : decide (S.size ≤ i) = false := decide_eq_false (by omega)
      have d5 := eq_false (show ¬ S.size ≤ i by omega)
      have p0 := eq_true (show (0 : Int) ≤ (i : Int) by omega)
      have p1 := eq_true (show (i : Int) < (S.size : Int) by omega)
      have p2 := eq_true (show i < S.size by omega)
      have hyx : Go.bits .xor .u8 ((x.toNat : Nat) : Int) (((2 ^ m : Nat) : Int)) = ((y.toNat : Nat) : Int) := by rw [hyn]; exact hy1
      have HM := ak_ (show a3 % 8 = ((m : Nat) : Int) ∧ 0 ≤ a3 ∧ a3 < 256 ∧ m < 8 from ⟨by omega, hsm.2.2.1, hsm.2.2.2, hm8⟩)
      obtain ⟨xi, hxi⟩ : ∃ xi : Int, xi = ((x.toNat : Nat) : Int) := ⟨_, rfl⟩
      obtain ⟨yi, hyi⟩ : ∃ yi : Int, yi = ((y.toNat : Nat) : Int) := ⟨_, rfl⟩
      rw [← hxi] at HXN
      rw [← hyi] at HTC
      rw [← hxi, ← hyi] at hyx
      obtain ⟨pw, hpw0⟩ : ∃ pw : Int, pw = (((2 ^ m : Nat)) : Int) := ⟨_, rfl⟩
      rw [← hpw0] at hyx
      have hpw : (2 : Int) ^ min m 8 % 256 = pw := by
        have hp : 2 ^ m < 256 := Nat.pow_lt_pow_right (a := 2) (by decide) hm8
        rw [hpw0, Nat.min_eq_left (Nat.le_of_lt hm8), show ((2 : Int) ^ m) = ((2 ^ m : Nat) : Int) by simp]
        generalize 2 ^ m = q at hp ⊢
        omega
      clear hpw0
      have hrem : Int.tmod a3 8 = ((m : Nat) : Int) := by rw [Int.tmod_eq_emod_of_nonneg HM.out.2.1]; exact HM.out.1
      have HRI := ak_ hrd
      have HIL := ak_ (show i < S.size by omega)
      have HTE := ak_ hT
      obtain ⟨vlo, hvlo⟩ : ∃ v : List Value, v = (List.replicate 32 (0 : Int)).map (fun x => Value.int .u8 x) := ⟨_, rfl⟩
      have HVo := ak_ (show arrV (List.replicate 32 (0 : Int)) = vlo.toArray by rw [hvlo]; rfl)
      have HVSo := ak_ (show vlo.toArray.size = 32 by rw [← HVo.out, arrV_size]; exact List.length_replicate)
      have HVOo := ak_ (show vlo.toArray.toList.all Value.oneCell' = true by rw [← HVo.out]; simpa using arrV_one (List.replicate 32 (0 : Int)))
      have HVLo := ak_ (show (Tryz.prog.info? 28).map (·.size) = some vlo.length by rw [hvlo, List.length_map]; rw [show (List.replicate 32 (0 : Int)).length = 32 from List.length_replicate]; exact info32)
      clear hvlo
      clear hs hS hz hsm hoa hob hrb hma hrd hln hlo hhi hil hx hm hm8 hy1 hy2 hy hyn hne hsp hro ht htl h2 h3 hT hxi hyi HRI
      go_enter Tryz.func5, Tryz.ntmps5
      go_wp2_with (first
        | (go_at_call 18; refine (cambiumlaw18_lives.calls true _ rfl).mono ?_; rintro e w1 ⟨rfl, hb⟩; have B1 := ak_ hb; clear hb)
        | (go_at_call 10; (with_reducible refine (stream_Send.calls k1 A0 c0 l0 A1 c1 l1 S 0 _ (Kd.C_below HC0.out B1.out) HP0.out (Kd.C_below HC1.out B1.out) HP1.out H1.out).mono ?_); rintro e w2 ⟨rfl, hb⟩; have B2 := ak_ (below_step B1.out hb); clear hb)
        | ((with_reducible refine gate_dst (N := 37) rfl ?_); refine conv_event rfl (.tmp 36) rfl S rfl ?_; intro gb cap hgb w3 lo hi_ hx hlo_ hb; have X3 := ak_ hx; have B3 := ak_ (below_step B2.out hb); have GB := ak_ (show w.heap.size ≤ gb by have := B2.out.size; omega); have q0 : w3.cell? ⟨gb, i, none⟩ = some (.int .u8 xi) := (Lib.cell_of_heap hx i).trans (HXN.out cap); have f0 : w3.frozen? ⟨gb, i, none⟩ = false := frz_lo hx (Nat.lt_of_lt_of_le HIL.out hlo_); have z1 := blk_setF hx i (.int .u8 yi); have X4 := ak_ z1; have B4 := ak_ (B3.out.setCell (p := ⟨gb, i, none⟩) GB.out (.int .u8 yi)); have cv := conv_back (cap := cap) z1 (HTC.out cap) HTL.out; rw [← HTE.out] at cv; clear hx hlo_ hb hgb z1)
        | (go_at_call 12; (with_reducible refine (stream_Receive.calls k2 A0 c0 l0 T [] 16 _ (Kd.C_below HC0.out B4.out) HP0.out HTS.out H2.out).mono ?_); rintro e w5 ⟨v5, rfl, hR, hb⟩; have B5 := ak_ (below_step B4.out hb); have X5 := ak_ (blk_below X4.out hb); have cv2 := conv_back (cap := cap) X5.out (HTC.out cap) HTL.out; rw [← HTE.out] at cv2; clear cv q0 f0; clear hb hR)
        | (go_at_call 14; (with_reducible refine (stream_Base.calls k3 T (List.replicate 32 (0 : Int)) 16 _ HTS.out H3.out).mono ?_); rintro e w6 ⟨rfl, hz, hb⟩; rw [HVo.out]; have B6 := ak_ (below_step B5.out hb); clear hb hz)
        | ((with_reducible refine gate_dst (N := 14) rfl ?_); refine var_event (N := 14) (T := 28) (n := 32) (zc := arrV (List.replicate 32 0)) (cs := vlo.toArray) rfl rfl rfl (.tmp 58) rfl rfl ?hr info32 (by simp [arrV_size]) HVSo.out HVOo.out ?hx ?hN ?_; (case hx => intro p_; rfl); (case hN => intro p_; rfl); (case hr => first | (go_simp; done) | (go_simp; rfl)); intro gy hg_ w7 hx hb; have y_7 := ak_ hx; have B7 := ak_ (below_step B6.out hb); clear hx hb hg_))
      go_ret
      exact ⟨rfl, B7.out⟩
end Go.Proofs.YtfkofbabeghgkaaGreat.Z
end

section
namespace Go.Proofs.YtfkofbabeghgkaaGreat.Pure
open Go.Proofs.YtfkofbabeghgkaaGreat Go.Proofs.YtfkofbabeghgkaaGreat.Z
theorem wf8 {n : Int} (h : (Lit.int .u8 n).wf = true) : 0 ≤ n ∧ n < 256 := by
  rw [Lit.wf_int_iff] at h
  simp [IntKind.min, IntKind.max, IntKind.bits, IntKind.signed] at h
  omega
theorem StreamTurned : ∀ (l0 : List (S77)) (l1 : List (S77)) (a2 : Int) (a3 : Int), l0.length ≤ maxLen → (∀ x ∈ l0, Z.G77 x) → l1.length ≤ maxLen → (∀ x ∈ l1, Z.G77 x) → (Lit.int .i64 a2).wf = true → (Lit.int .u8 a3).wf = true → ((l0.map Z.B77).sum + 1) + ((l1.map Z.B77).sum + 1) + 1 + 1 ≤ 1048576 → Z.cambiumlaw18_StreamTurned.f l0 l1 a2 a3 = some true := by
  intro l0 l1 a2 a3 h0 g0 h1 g1 hw2 hw3 hb
  have m0 := Z.sm_len (B := Z.B77) (fun x => Nat.succ_le_succ (Nat.zero_le _)) l0
  have m1 := Z.sm_len (B := Z.B77) (fun x => Nat.succ_le_succ (Nat.zero_le _)) l1
  unfold Z.cambiumlaw18_StreamTurned.f
  exact if_pos ⟨⟨g0, by omega⟩, ⟨g1, by omega⟩, wf8 hw3⟩
end Go.Proofs.YtfkofbabeghgkaaGreat.Pure
end

section
namespace Go.Proofs.YtfkofbabeghgkaaGreat.streamTurned
open Go.ChangeShapes Go.WideShapes Go.ChangeAt Go.RowKit
open Go.ChangeMaps (open_string shut_string)
theorem own : ownKnob Tryz.prog.godebug = none := by kernel_rfl
theorem laidOut : laidOutB Tryz.prog = true := by kernel_rfl
set_option maxHeartbeats 1000000 in
set_option maxRecDepth 100000 in
theorem lifted (os : Os) (started : os.Started) (H : Type) (enc : TypeId × Value → H) (F : Stop.Interp) :
    ReturnsInHanded {} Tryz.checked os 5 .any ((Rows.OpenSpec.upto Rows.streamTurnedSpec).pre6 enc Tryz.prog Tryz.f5 Rows.streamTurnedUptoRow.domain false) (((Rows.OpenSpec.upto Rows.streamTurnedSpec).at F).post enc Tryz.prog Tryz.f5 false true false false) := by
  refine returnsInHanded_of_cond_sized (C := Tryz.checked) (s := Rows.OpenSpec.upto Rows.streamTurnedSpec) (k := Rows.uptoSmall) rfl own started (by kernel_rfl) Tryz.func5
    (OpenSpec.witness (enc := enc) (C := Tryz.checked) (s := Rows.OpenSpec.upto Rows.streamTurnedSpec) (k := Rows.uptoSmall) rfl false ⟨#[], #[.slice none 0 0, .slice none 0 0, .int .i64 0, .int .u8 0], []⟩ 8 (by kernel_rfl) (by kernel_rfl) (by kernel_rfl)
      (x := ([.nil, .nil, .lit (.int .i64 0), .lit (.int .u8 0)], [], [])) (by kernel_rfl) rfl (by kernel_rfl)) ?_
  intro W base args ds gs before hval0 hW hcnd hk0 hwz_ _
  have hsz : (DataW.weightsEach Tryz.prog (Tryz.f5.params.toList ++ Rows.streamTurnedSpec.plain.varTypes Tryz.prog) (ds ++ gs)).all (· ≤ reachBytes) = true := hwz_
  have hval : ∀ (j : Nat) t v, Tryz.f5.params[j]? = some t → args[j]? = some v → Value.okWide Tryz.prog W .any base t v := hval0
  have hW' := hW
  obtain ⟨p, q, hA0, hV, rfl, hfz, hnd⟩ := hW
  have hA : DataW.TrodAll enc Tryz.prog W 0 (fun _ => true) true Tryz.f5.params.toList args.toList ds p := hA0
  rw [Tryz.params5] at hA hval hsz
  obtain ⟨v0, vs0, d0, ds0, p0, q0, hargs, rfl, rfl, h0, r0⟩ := trodAll_cons hA
  obtain ⟨v1, vs1, d1, ds1, p1, q1, rfl, rfl, rfl, h1, r1⟩ := trodAll_cons r0
  obtain ⟨v2, vs2, d2, ds2, p2, q2, rfl, rfl, rfl, h2, r2⟩ := trodAll_cons r1
  obtain ⟨v3, vs3, d3, ds3, p3, q3, rfl, rfl, rfl, h3, r3⟩ := trodAll_cons r2
  obtain ⟨rfl, rfl, rfl⟩ := trodAll_nil r3
  obtain rfl : args = #[v0, v1, v2, v3] := by cases args; simp_all
  obtain ⟨rfl, rfl⟩ := trodVars_none hV
  have k0 := h0
  have lt0 : ∀ x ∈ p0, x.block < W.heap.size := by obtain ⟨m, hm⟩ := k0; exact DataW.trod_lt m _ _ _ hm
  obtain ⟨a0, len0, cap0, rfl⟩ := okWide_slice Tryz.underlying22 (hval 0 22 v0 rfl rfl)
  obtain ⟨fuel0, hf0⟩ := h0
  obtain ⟨A0, c0, l0, hcs0, hlc0, hcm0, hC0, hG0, hB0, hx0⟩ := Z.Opens.row Tryz.underlying22 Z.opens77 (of_decide_eq_true (by kernel_rfl)) hf0
  simp only [Value.cells, List.cons.injEq, Value.slice.injEq, and_true] at hcs0
  obtain ⟨rfl, rfl, rfl⟩ := hcs0
  have hlm0 : l0.length ≤ maxLen := Nat.le_trans hlc0 hcm0
  have k1 := h1
  have lt1 : ∀ x ∈ p1, x.block < W.heap.size := by obtain ⟨m, hm⟩ := k1; exact DataW.trod_lt m _ _ _ hm
  obtain ⟨a1, len1, cap1, rfl⟩ := okWide_slice Tryz.underlying22 (hval 1 22 v1 rfl rfl)
  obtain ⟨fuel1, hf1⟩ := h1
  obtain ⟨A1, c1, l1, hcs1, hlc1, hcm1, hC1, hG1, hB1, hx1⟩ := Z.Opens.row Tryz.underlying22 Z.opens77 (of_decide_eq_true (by kernel_rfl)) hf1
  simp only [Value.cells, List.cons.injEq, Value.slice.injEq, and_true] at hcs1
  obtain ⟨rfl, rfl, rfl⟩ := hcs1
  have hlm1 : l1.length ≤ maxLen := Nat.le_trans hlc1 hcm1
  have k2 := h2
  have lt2 : ∀ x ∈ p2, x.block < W.heap.size := by obtain ⟨m, hm⟩ := k2; exact DataW.trod_lt m _ _ _ hm
  obtain ⟨a2, rfl, rfl, rfl, w2⟩ := open_int Tryz.underlying3 (hval 2 3 v2 rfl rfl) h2
  have k3 := h3
  have lt3 : ∀ x ∈ p3, x.block < W.heap.size := by obtain ⟨m, hm⟩ := k3; exact DataW.trod_lt m _ _ _ hm
  obtain ⟨a3, rfl, rfl, rfl, w3⟩ := open_int Tryz.underlying5 (hval 3 5 v3 rfl rfl) h3
  have hbk : ((l0.map Z.B77).sum + 1) + ((l1.map Z.B77).sum + 1) + 1 + 1 ≤ 1048576 := by
    have hb_ := of_decide_eq_true hk0
    simp only [Rows.uptoBulkAll, Rows.uptoBulk, List.append_nil, Array.length_toList, List.map_cons, List.map_nil] at hb_
    (try simp only [show ∀ s : ByteArray, s.data.size = s.size from fun _ => rfl] at hb_)
    (try dsimp only at hB0)
    (try dsimp only at hB1)
    omega
  have hP := Pure.StreamTurned l0 l1 a2 a3 hlm0 hG0 hlm1 hG1 w2 w3 hbk
  refine (Z.cambiumlaw18_StreamTurned.calls _ _ l0 _ _ l1 a2 a3 true W hC0 hlc0 hC1 hlc1 hP).mono fun e W' ⟨he, bel0⟩ => ?_
  have bel : Below W.heap.size W W' := bel0
  subst he
  exact ⟨_, rfl, _, _, _, [], _, [], hW', trodAll_mk1 (shut_bool Tryz.underlying4 _), (trodAll_cons_mk (Below.trod laidOut (by kernel_rfl) (of_decide_eq_true (by kernel_rfl)) k0 bel lt0) (trodAll_cons_mk (Below.trod laidOut (by kernel_rfl) (of_decide_eq_true (by kernel_rfl)) k1 bel lt1) (trodAll_cons_mk (Below.trod laidOut (by kernel_rfl) (of_decide_eq_true (by kernel_rfl)) k2 bel lt2) (trodAll_cons_mk (Below.trod laidOut (by kernel_rfl) (of_decide_eq_true (by kernel_rfl)) k3 bel lt3) trodAll_mk0)))), rfl, bel.frame _, fun h => by cases h⟩
theorem over : Rows.streamTurnedUptoRow.holds Tryz.pinned (Rows.OpenSpec.upto Rows.streamTurnedSpec) :=
  OpenClaim.holds_of_cond 5 Tryz.f5 rfl rfl rfl rfl rfl rfl rfl ⟨rfl, rfl, rfl, rfl, rfl⟩ rfl rfl rfl rfl rfl (by kernel_rfl) Tryz.func5 (by kernel_rfl)
    (of_decide_eq_true (by kernel_rfl)) (by unfold Func.isWrapper; first | (rw [if_pos (by decide +kernel)]; kernel_rfl) | (rw [if_neg (by decide +kernel)]; exact ⟨rfl, rfl⟩))
    (fun os started H enc _ F => lifted os started H enc F)
end Go.Proofs.YtfkofbabeghgkaaGreat.streamTurned
namespace Go.Proofs.YtfkofbabeghgkaaGreat
theorem streamTurned_holds : Rows.StreamTurnedUptoSaid := streamTurned.over
#print axioms streamTurned_holds
end Go.Proofs.YtfkofbabeghgkaaGreat
end
