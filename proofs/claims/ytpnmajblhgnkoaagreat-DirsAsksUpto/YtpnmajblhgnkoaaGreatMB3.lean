/- This session's own texts, laid together (a part that several claims share). -/
import Derived.Test.YtpnmajblhgnkoaaGreatMB2
import Derived.Lib.IndexLaws
import Derived.Lib.Join
import Derived.Lib.SmallJoins
import Derived.Test.YtpnmajblhgnkoaaGreatMB1
import Derived.Test.YtpnmajblhgnkoaaGreatProg
import Derived.Laws.BitsLemmas
import Derived.Laws.Bits64
import Derived.Lib.BitFns
import Derived.Lib.Strings
open Go.RowKit Go.Proofs.YtpnmajblhgnkoaaGreatW.PrintWords Go.Proofs.YtpnmajblhgnkoaaGreatW.PrintLast Go.Proofs.YtpnmajblhgnkoaaGreatW.PrintMore
set_option linter.unusedVariables false
set_option linter.unusedSimpArgs false
section
namespace Go.Proofs.YtpnmajblhgnkoaaGreat.Z
attribute [local go_sem ↓] Go.wp_at_zero Go.wp_at_succ
theorem C_tail {w : World} {b o : Nat} {x : ByteArray} {r : List ByteArray} (h : Kd.C Kd.string w (some ⟨b, o, none⟩) (x :: r).length (x :: r)) : w.cell? ⟨b, o, none⟩ = some (.string x) ∧ Kd.C Kd.string w (some ⟨b, o + 1, none⟩) r.length r := by
 obtain ⟨hl, hmx, hc0⟩ := h
 obtain ⟨ad, had, hc⟩ := hc0 (by simp)
 obtain rfl := Option.some.inj had
 have hcell : ∀ j y, (x :: r)[j]? = some y → w.cell? ⟨b, o + j, none⟩ = some (.string y) := by
  intro j y hy
  obtain ⟨c, hs, hr, hcell⟩ := hc j y hy
  have hr' : c = [.string y] := hr
  subst hr'
  have := hcell 0 _ rfl
  rw [show (Kd.string).sz = 1 from rfl, show j * 1 + 0 = j by omega, add_at] at this
  exact this
 refine ⟨hcell 0 x rfl, rfl, by simp at hmx; omega, fun _ => ⟨_, rfl, fun j y hy => ⟨[.string y], rfl, rfl, fun i u hu => ?_⟩⟩⟩
 have h1 := hcell (j + 1) y (by simpa using hy)
 cases i with
 | zero =>
  obtain rfl : (.string y : Value) = u := by simpa using hu
  rw [show (Kd.string).sz = 1 from rfl, show j * 1 + 0 = j by omega, add_at, show o + 1 + j = o + (j + 1) by omega]
  exact h1
 | succ i => simp at hu
theorem C_none0 {w : World} (A : Option Addr) : Kd.C Kd.string w A ([] : List ByteArray).length [] := ⟨rfl, by simp, fun h => absurd h (Nat.lt_irrefl 0)⟩
set_option maxRecDepth 100000 in
theorem run_tail (b o cn m : Nat) (hm : m + 1 ≤ cn) (w : World) : (Instr.sliceAt 23 (.slice (some ⟨b, o, none⟩) (m + 1) cn) (some (.int .i64 1)) none none).run Tryz.prog w = .ok (.slice (if cn = 1 then some ⟨b, o, none⟩ else some ⟨b, o + 1, none⟩) m (cn - 1)) w := by
 have p1 := eq_true (show (1 : Int) ≤ (m : Int) + 1 by omega)
 have p2 := eq_true (show (m : Int) + 1 ≤ (cn : Int) by omega)
 by_cases h : cn = 1
 ·subst h
  obtain rfl : m = 0 := by omega
  go_simp
 ·have h2 := eq_false h
  go_simp
theorem tail_event {ops : Array Oper} {rest : List Oper} {o : Oper} {a : Act} {Q : Exit → Act → World → Prop} {W : World} (hg : o.guard = none) (x : Operand) (hop : o.op = .slice 23 x (some (.const (.int .i64 1))) none none) {b off cn m : Nat} (hx : a.eval x = .slice (some ⟨b, off, none⟩) (m + 1) cn) (hm : m + 1 ≤ cn)
  (h : ∀ A', A' = (if cn = 1 then some ⟨b, off, none⟩ else some ⟨b, off + 1, none⟩) → wpList Tryz.prog ops Q rest (a.put o.dst (.slice A' m (cn - 1))) W) : wpList Tryz.prog ops Q (o :: rest) a W := by
 refine Kd.event_run (v := .slice (if cn = 1 then some ⟨b, off, none⟩ else some ⟨b, off + 1, none⟩) m (cn - 1)) (w1 := W) hg ?_ (h _ rfl)
 have hr := run_tail b off cn m hm W
 have he : a.eval (.const (.int .i64 1)) = .int .i64 1 := rfl
 unfold execOp
 simp [hop, hx, he, hr]
theorem C_tail2 {w : World} {A' : Option Addr} {b o cn : Nat} {r : List ByteArray} (h : Kd.C Kd.string w (some ⟨b, o + 1, none⟩) r.length r) (hA : A' = (if cn = 1 then some ⟨b, o, none⟩ else some ⟨b, o + 1, none⟩)) (hc : r.length + 1 ≤ cn) : Kd.C Kd.string w A' r.length r := by
 subst hA
 split
 ·cases r with
  | nil => exact C_none0 _
  | cons y r => simp at hc; omega
 ·exact h
theorem litv_event {P : Program} {ops : Array Oper} {rest : List Oper} {o : Oper} {a : Act} {Q : Exit → Act → World → Prop} {W : World} {cs : Array Value} {t : TypeId} {n : Nat} (hgd : o.guard = none) (hrun : (execOp a.eval o).run P W = .ok (.value (.slice (some ⟨W.heap.size, 0, none⟩) n n)) (W.alloc (.cells cs t (0, 0))))
  (h : ∀ g, g = W.heap.size → ∀ w1, w1.heap[g]? = some (.cells cs t (0, 0)) → Below W.heap.size W w1 → wpList P ops Q rest (a.put o.dst (.slice (some ⟨g, 0, none⟩) n n)) w1) : wpList P ops Q (o :: rest) a W :=
 Kd.event_run hgd hrun (h _ rfl _ (blk_new W _) (below_alloc (Below.refl _ _) _))
def walkL (l : List VIT) (s : VS) (follow : Bool) : Nat → List ByteArray → Int → Int → Option (Int × Int)
 | 0, _, _, _ => none
 | k + 1, [], a, _ => some (a, 0)
 | k + 1, x :: r, a, ln => if ((s.ino a).getD zI).kd = 1 then (entryF k l a x).bind fun t => if t = 0 then some (0, 5) else
   if ((s.ino t).getD zI).kd = 3 ∧ ¬ (r = [] ∧ follow = false) then
    (if 8 < ln + 1 then some (0, 15) else (path_Split.f k ((s.ino t).getD zI).tg).bind fun p => if p.2 = 0 then (if p.1.length + r.length ≤ 10995116277760 then walkL l s follow k (p.1 ++ r) 1 (ln + 1) else none) else some (0, p.2))
   else walkL l s follow k r t ln else some (0, 12)
theorem walkL.mono (l : List VIT) (s : VS) (follow : Bool) : ∀ (k : Nat) (ns : List ByteArray) (a ln : Int), LeO (walkL l s follow k ns a ln) (walkL l s follow (k + 1) ns a ln)
 | 0, ns, a, ln => fun r h => by simp [walkL] at h
 | k + 1, [], a, ln => LeO.refl _
 | k + 1, x :: r, a, ln => by
  unfold walkL
  exact LeO.ite (LeO.bind (entryF.mono _ _ _ _) (fun _ => LeO.ite (LeO.refl _) (LeO.ite (LeO.ite (LeO.refl _) (LeO.bind (path_Split.mono _ _) (fun _ => LeO.ite (LeO.ite (walkL.mono l s follow k _ _ _) (LeO.none _)) (LeO.refl _)))) (walkL.mono l s follow k _ _ _)))) (LeO.refl _)
set_option maxRecDepth 100000 in
set_option maxHeartbeats 12800000 in
theorem walk_calls (k : Nat) (g base : Nat) (A : Option Addr) (c : Nat) (l : List VIT) (sm : Int) (s : VS) (An : Option Addr) (cn : Nat) (names : List ByteArray) (follow : Bool) (r1 r2 : Int) (w : World) (hV : VolOf w g base A c l sm s) (hC : Kd.C k56 w A l.length l) (hc : l.length ≤ c) (hN : Kd.C Kd.string w An names.length names) (hcn : names.length ≤ cn) (h : walkL l s follow k names 1 0 = some (r1, r2)) :
  Calls Tryz.prog 20 #[.pointer (some ⟨g, 0, none⟩), .slice An names.length cn, .bool follow] w fun e w' => e = .returned (.tuple #[.int .u32 r1, .int .i64 r2]) ∧ Below w.heap.size w w' := by
 obtain ⟨va, bi, bu, hG, hA, hI, _⟩ := id hV
 have hnot : ∀ (x : Bool) (w : World), (Op.unary .not (.bool x)).run Tryz.prog w = .ok (.bool (!x)) w := fun _ _ => rfl
 have HV := ak_ hV
 have HC := ak_ hC
 have HP := ak_ hc
 have HNN := ak_ hN
 have HCN := ak_ hcn
 have H := ak_ h
 have GB := ak_ hG
 have MI := ak_ hI
 clear hV hC hc hN hcn h hG hA hI
 go_enter Tryz.func20, Tryz.ntmps20
 go_wp2
 go_loopg [1, 8, 9] k (fun kq vn va vl wr => ∃ (An : Option Addr) (cn : Nat) (ns : List ByteArray) (a ln : Int), vn = .slice An ns.length cn ∧ va = .int .u32 a ∧ vl = .int .i64 ln ∧ Aside0 (walkL l s follow kq ns a ln = some (r1, r2)) ∧ Aside0 (kq ≤ k) ∧ Aside0 (0 ≤ a ∧ a < 4294967296) ∧ Aside0 (0 ≤ ln ∧ ln ≤ 8) ∧ Aside0 (ns.length ≤ cn) ∧ Aside0 (Kd.C Kd.string wr An ns.length ns) ∧ Aside0 (Below w.heap.size w wr))
 case atStart => exact ⟨An, cn, names, 1, 0, rfl, rfl, rfl, H, ⟨Nat.le_refl _⟩, ⟨by decide⟩, ⟨by decide⟩, HCN, HNN, ⟨Below.refl _ _⟩⟩
 case round =>
  obtain ⟨An, cn, ns, a, ln, rfl, rfl, rfl, HA, HK1, HAT, HLN, HCP, HNS, HB⟩ := hrel
  cases gk with
  | zero => exact absurd HA.out (by simp [walkL])
  | succ k1 =>
   cases ns with
   | nil =>
    have hR := HA.out
    rw [walkL] at hR
    have hR2 := Option.some.inj hR
    simp only [Prod.mk.injEq] at hR2
    obtain ⟨rfl, rfl⟩ := hR2
    clear hR HA
    go_wp2
    go_ret2
    exact ⟨rfl, HB.out⟩
   | cons x r =>
    have hR := HA.out
    rw [walkL] at hR
    obtain ⟨b_, o_, hAn, _, _⟩ := C_strings HNS.out (by simp)
    subst hAn
    obtain ⟨z0, hnr⟩ := C_tail HNS.out
    have HNR := ak_ hnr
    have q6 : wr.cell? ⟨g, 6, none⟩ = some (.map (some bi)) := (blk_cell (blk_below GB.out HB.out) 6).trans rfl
    obtain ⟨n1, hn1⟩ : ∃ n1, n1 = (s.ino a).getD zI := ⟨_, rfl⟩
    rw [← hn1] at hR
    have HN1 := ak_ hn1
    have lk := lookN (MI.out.below HB.out) HAT.out HN1.out
    have fl := fieldI n1
    have p1 := eq_true (show (1 : Int) ≤ (r.length : Int) + 1 by omega)
    have p2 := eq_true (show (r.length : Int) + 1 ≤ (cn : Int) by have := HCP.out; simp at this; omega)
    have e_len : decide ((0 : Int) < (r.length : Int) + 1) = true := decide_eq_true (by omega)
    clear hn1 hnr HA
    by_cases k0 : n1.kd = 1
    ·rw [if_pos k0] at hR
     have e0 : (n1.kd != 1) = false := bne_eq_false_iff_eq.2 k0
     obtain ⟨tt, ht, hR⟩ := Option.bind_eq_some_iff.mp hR
     have HE := ak_ ht
     have HTW := ak_ (entry_wf ht)
     obtain ⟨n2, hn2⟩ : ∃ n2, n2 = (s.ino tt).getD zI := ⟨_, rfl⟩
     rw [← hn2] at hR
     have HN2 := ak_ hn2
     have HRR := ak_ hR
     clear hR ht hn2 k0
     by_cases h0 : tt = 0
     ·have e1 : (tt == 0) = true := beq_iff_eq.2 h0
      have hR2 := HRR.out
      rw [if_pos h0] at hR2
      have hR3 := Option.some.inj hR2
      simp only [Prod.mk.injEq] at hR3
      obtain ⟨rfl, rfl⟩ := hR3
      clear hR2 h0
      go_wp2_with (first | (go_at_call 38; refine (entry_calls k1 g base A c l sm s a x tt _ (HV.out.below HB.out) (Kd.C_below HC.out HB.out) HP.out HE.out).mono ?_; rintro e w3 ⟨rfl, hb3⟩; have B3 := ak_ (below_step HB.out hb3); have D3 := ak_ hb3; have q6 : w3.cell? ⟨g, 6, none⟩ = some (.map (some bi)) := (blk_cell (blk_below GB.out B3.out) 6).trans rfl; have lk := lookN (MI.out.below B3.out) HTW.out HN2.out; clear hb3 z0))
      go_ret2
      exact ⟨rfl, B3.out⟩
     ·have e1 : (tt == 0) = false := beq_eq_false_iff_ne.2 h0
      have hR2 := HRR.out
      rw [if_neg h0] at hR2
      clear h0 HRR hR
      by_cases k3 : n2.kd = 3
      ·have e3 : (n2.kd != 3) = false := bne_eq_false_iff_eq.2 k3
       by_cases hr : r = []
       ·subst hr
        cases follow with
        | false =>
         rw [if_neg (fun h => h.2 ⟨rfl, rfl⟩)] at hR2
         have HRR := ak_ hR2
         clear hR2 k3
         go_wp2_with (first
          | (go_at_call 38; refine (entry_calls k1 g base A c l sm s a x tt _ (HV.out.below HB.out) (Kd.C_below HC.out HB.out) HP.out HE.out).mono ?_; rintro e w3 ⟨rfl, hb3⟩; have B3 := ak_ (below_step HB.out hb3); have D3 := ak_ hb3; have q6 : w3.cell? ⟨g, 6, none⟩ = some (.map (some bi)) := (blk_cell (blk_below GB.out B3.out) 6).trans rfl; have lk := lookN (MI.out.below B3.out) HTW.out HN2.out; clear hb3 z0)
          | ((with_reducible refine gate_dst (N := 33) rfl ?_); refine tail_event rfl (.tmp 32) rfl (b := b_) (off := o_) (cn := cn) (m := 0) rfl (by have := HCP.out; simpa using this) ?_; intro A' hA'; have HT3 := ak_ (C_tail2 (Kd.C_below HNR.out D3.out) hA' (by have := HCP.out; simpa using this)); clear hA')
          | ((with_reducible refine gate_dst (N := 10) rfl ?_); refine var_event (N := 10) (T := 31) (n := 5) (zc := #[.int .u8 0, .int .u16 0, .int .u32 0, .int .u32 0, .string ⟨#[]⟩]) (cs := #[.int .u8 n2.kd, .int .u16 n2.md, .int .u32 n2.ln, .int .u32 n2.sz, .string n2.tg]) rfl rfl rfl (.tmp 39) rfl rfl ?hr (by kernel_rfl) rfl rfl rfl ?hx ?hN ?_; (case hx => intro p_; rfl); (case hN => intro p_; rfl); (case hr => first | (go_simp; done) | (go_simp; rfl)); intro gn hgn w4 hx4 hb4; have Z4 := ak_ hx4; have D4 := ak_ hb4; have B4 := ak_ (below_step B3.out hb4); have y0 : w4.cell? ⟨gn, 0, none⟩ = some (.int .u8 n2.kd) := (blk_cell Z4.out 0).trans rfl; have y4 : w4.cell? ⟨gn, 4, none⟩ = some (.string n2.tg) := (blk_cell Z4.out 4).trans rfl; clear hx4 hb4 hgn q6 lk))
         go_roundg k1
         case measure => have := HK1.out; omega
         case rel => exact ⟨A', cn - 1, [], tt, ln, rfl, rfl, rfl, HRR, ⟨by have := HK1.out; omega⟩, HTW, HLN, ⟨by first | (simp; done) | (have := HCP.out; simp at this; omega)⟩, ⟨Kd.C_below HT3.out D4.out⟩, B4⟩
        | true =>
         rw [if_pos ⟨k3, fun h => by cases h.2⟩] at hR2
         clear k3
         have ew : wrap64 (ln + 1) = ln + 1 := by have := HLN.out; unfold wrap64; omega
         by_cases k8 : 8 < ln + 1
         ·rw [if_pos k8] at hR2
          have e8 : decide (8 < ln + 1) = true := decide_eq_true k8
          have hR3 := Option.some.inj hR2
          simp only [Prod.mk.injEq] at hR3
          obtain ⟨rfl, rfl⟩ := hR3
          clear hR2 k8
          go_wp2_with (first
           | (go_at_call 38; refine (entry_calls k1 g base A c l sm s a x tt _ (HV.out.below HB.out) (Kd.C_below HC.out HB.out) HP.out HE.out).mono ?_; rintro e w3 ⟨rfl, hb3⟩; have B3 := ak_ (below_step HB.out hb3); have D3 := ak_ hb3; have q6 : w3.cell? ⟨g, 6, none⟩ = some (.map (some bi)) := (blk_cell (blk_below GB.out B3.out) 6).trans rfl; have lk := lookN (MI.out.below B3.out) HTW.out HN2.out; clear hb3 z0)
           | ((with_reducible refine gate_dst (N := 33) rfl ?_); refine tail_event rfl (.tmp 32) rfl (b := b_) (off := o_) (cn := cn) (m := 0) rfl (by have := HCP.out; simpa using this) ?_; intro A' hA'; have HT3 := ak_ (C_tail2 (Kd.C_below HNR.out D3.out) hA' (by have := HCP.out; simpa using this)); clear hA')
           | ((with_reducible refine gate_dst (N := 10) rfl ?_); refine var_event (N := 10) (T := 31) (n := 5) (zc := #[.int .u8 0, .int .u16 0, .int .u32 0, .int .u32 0, .string ⟨#[]⟩]) (cs := #[.int .u8 n2.kd, .int .u16 n2.md, .int .u32 n2.ln, .int .u32 n2.sz, .string n2.tg]) rfl rfl rfl (.tmp 39) rfl rfl ?hr (by kernel_rfl) rfl rfl rfl ?hx ?hN ?_; (case hx => intro p_; rfl); (case hN => intro p_; rfl); (case hr => first | (go_simp; done) | (go_simp; rfl)); intro gn hgn w4 hx4 hb4; have Z4 := ak_ hx4; have D4 := ak_ hb4; have B4 := ak_ (below_step B3.out hb4); have y0 : w4.cell? ⟨gn, 0, none⟩ = some (.int .u8 n2.kd) := (blk_cell Z4.out 0).trans rfl; have y4 : w4.cell? ⟨gn, 4, none⟩ = some (.string n2.tg) := (blk_cell Z4.out 4).trans rfl; clear hx4 hb4 hgn q6 lk))
          go_ret2
          exact ⟨rfl, B4.out⟩
         ·rw [if_neg k8] at hR2
          have e8 : decide (8 < ln + 1) = false := decide_eq_false k8
          obtain ⟨⟨p1, wp⟩, hp, hR2⟩ := Option.bind_eq_some_iff.mp hR2
          have HS := ak_ hp
          have HL8 := ak_ k8
          clear hp k8
          by_cases k9 : wp = 0
          ·rw [if_pos k9] at hR2
           subst k9
           split at hR2
           case isFalse => cases hR2
           case isTrue hql =>
           have HQL := ak_ hql
           have HRR := ak_ hR2
           clear hR2 hql
           go_wp2_with (first
            | (go_at_call 38; refine (entry_calls k1 g base A c l sm s a x tt _ (HV.out.below HB.out) (Kd.C_below HC.out HB.out) HP.out HE.out).mono ?_; rintro e w3 ⟨rfl, hb3⟩; have B3 := ak_ (below_step HB.out hb3); have D3 := ak_ hb3; have q6 : w3.cell? ⟨g, 6, none⟩ = some (.map (some bi)) := (blk_cell (blk_below GB.out B3.out) 6).trans rfl; have lk := lookN (MI.out.below B3.out) HTW.out HN2.out; clear hb3 z0)
            | ((with_reducible refine gate_dst (N := 33) rfl ?_); refine tail_event rfl (.tmp 32) rfl (b := b_) (off := o_) (cn := cn) (m := 0) rfl (by have := HCP.out; simpa using this) ?_; intro A' hA'; have HT3 := ak_ (C_tail2 (Kd.C_below HNR.out D3.out) hA' (by have := HCP.out; simpa using this)); clear hA')
            | ((with_reducible refine gate_dst (N := 10) rfl ?_); refine var_event (N := 10) (T := 31) (n := 5) (zc := #[.int .u8 0, .int .u16 0, .int .u32 0, .int .u32 0, .string ⟨#[]⟩]) (cs := #[.int .u8 n2.kd, .int .u16 n2.md, .int .u32 n2.ln, .int .u32 n2.sz, .string n2.tg]) rfl rfl rfl (.tmp 39) rfl rfl ?hr (by kernel_rfl) rfl rfl rfl ?hx ?hN ?_; (case hx => intro p_; rfl); (case hN => intro p_; rfl); (case hr => first | (go_simp; done) | (go_simp; rfl)); intro gn hgn w4 hx4 hb4; have Z4 := ak_ hx4; have D4 := ak_ hb4; have B4 := ak_ (below_step B3.out hb4); have y0 : w4.cell? ⟨gn, 0, none⟩ = some (.int .u8 n2.kd) := (blk_cell Z4.out 0).trans rfl; have y4 : w4.cell? ⟨gn, 4, none⟩ = some (.string n2.tg) := (blk_cell Z4.out 4).trans rfl; clear hx4 hb4 hgn q6 lk)
            | (go_at_call 39; refine (path_Split.calls k1 n2.tg p1 0 _ HS.out).mono ?_; rintro e w5 ⟨v5, rfl, ho5, hb5⟩; have R5 := ak_ ho5; have D45 := ak_ (below_step D4.out hb5); have B5 := ak_ (below_step B4.out hb5); obtain ⟨A5, c5, rfl⟩ := Kd.R_slice ho5; clear ho5 hb5 y0 y4)
            | ((with_reducible refine gate_dst (N := 67) rfl ?_); refine litv_event (cs := #[.slice A5 p1.length c5, .slice A' 0 (cn - 1)]) (t := 23) (n := 2) rfl ?hr ?_; (case hr => first | (go_simp; done) | (go_simp; rfl)); intro gq hgq w6 hx6 hb6; have Q6 := ak_ hx6; have D6 := ak_ hb6; have B6 := ak_ (below_step B5.out hb6); clear hx6 hb6 hgq)
            | (go_at_call 40; refine (concat_calls gq 23 A5 A' c5 (cn - 1) p1 [] _ Q6.out (Kd.C_below (Kd.R_reads' R5.out).2.2 D6.out) (Kd.C_below (Kd.C_below HT3.out D45.out) D6.out) HQL.out).mono ?_; rintro e w7 ⟨v7, rfl, ho7, hb7⟩; have R7 := ak_ ho7; have B7 := ak_ (below_step B6.out hb7); obtain ⟨A7, c7, hv7⟩ := Kd.R_slice ho7; obtain ⟨n7, hn7⟩ : ∃ n7, n7 = (p1 ++ []).length := ⟨_, rfl⟩; rw [← hn7] at hv7; subst hv7; have N7 := ak_ hn7; clear ho7 hb7 hn7))
           go_roundg k1
           case measure => have := HK1.out; omega
           case rel => exact ⟨A7, c7, p1 ++ [], 1, ln + 1, (by rw [N7.out]), rfl, rfl, HRR, ⟨by have := HK1.out; omega⟩, ⟨by decide⟩, ⟨by have := HLN.out; have := HL8.out; omega⟩, ⟨by rw [← N7.out]; exact (Kd.R_reads' R7.out).2.1⟩, ⟨by have := (Kd.R_reads' R7.out).2.2; first | exact this | (rw [N7.out] at this; exact this)⟩, B7⟩
          ·rw [if_neg k9] at hR2
           have e9 : (wp != 0) = true := bne_iff_ne.2 k9
           have hR3 := Option.some.inj hR2
           simp only [Prod.mk.injEq] at hR3
           obtain ⟨rfl, rfl⟩ := hR3
           clear hR2 k9
           go_wp2_with (first
            | (go_at_call 38; refine (entry_calls k1 g base A c l sm s a x tt _ (HV.out.below HB.out) (Kd.C_below HC.out HB.out) HP.out HE.out).mono ?_; rintro e w3 ⟨rfl, hb3⟩; have B3 := ak_ (below_step HB.out hb3); have D3 := ak_ hb3; have q6 : w3.cell? ⟨g, 6, none⟩ = some (.map (some bi)) := (blk_cell (blk_below GB.out B3.out) 6).trans rfl; have lk := lookN (MI.out.below B3.out) HTW.out HN2.out; clear hb3 z0)
            | ((with_reducible refine gate_dst (N := 33) rfl ?_); refine tail_event rfl (.tmp 32) rfl (b := b_) (off := o_) (cn := cn) (m := 0) rfl (by have := HCP.out; simpa using this) ?_; intro A' hA'; have HT3 := ak_ (C_tail2 (Kd.C_below HNR.out D3.out) hA' (by have := HCP.out; simpa using this)); clear hA')
            | ((with_reducible refine gate_dst (N := 10) rfl ?_); refine var_event (N := 10) (T := 31) (n := 5) (zc := #[.int .u8 0, .int .u16 0, .int .u32 0, .int .u32 0, .string ⟨#[]⟩]) (cs := #[.int .u8 n2.kd, .int .u16 n2.md, .int .u32 n2.ln, .int .u32 n2.sz, .string n2.tg]) rfl rfl rfl (.tmp 39) rfl rfl ?hr (by kernel_rfl) rfl rfl rfl ?hx ?hN ?_; (case hx => intro p_; rfl); (case hN => intro p_; rfl); (case hr => first | (go_simp; done) | (go_simp; rfl)); intro gn hgn w4 hx4 hb4; have Z4 := ak_ hx4; have D4 := ak_ hb4; have B4 := ak_ (below_step B3.out hb4); have y0 : w4.cell? ⟨gn, 0, none⟩ = some (.int .u8 n2.kd) := (blk_cell Z4.out 0).trans rfl; have y4 : w4.cell? ⟨gn, 4, none⟩ = some (.string n2.tg) := (blk_cell Z4.out 4).trans rfl; clear hx4 hb4 hgn q6 lk)
            | (go_at_call 39; refine (path_Split.calls k1 n2.tg p1 wp _ HS.out).mono ?_; rintro e w5 ⟨v5, rfl, ho5, hb5⟩; have R5 := ak_ ho5; have D45 := ak_ (below_step D4.out hb5); have B5 := ak_ (below_step B4.out hb5); obtain ⟨A5, c5, rfl⟩ := Kd.R_slice ho5; clear ho5 hb5 y0 y4))
           go_ret2
           exact ⟨rfl, B5.out⟩
       ·have e4 : ((r.length : Int) == 0) = false := beq_eq_false_iff_ne.2 (fun h => hr (List.length_eq_zero_iff.1 (by omega)))
        have e5 : (r.length == 0) = false := beq_eq_false_iff_ne.2 (fun h => hr (List.length_eq_zero_iff.1 h))
        have e6 : (r = []) = False := eq_false hr
        have e7 : r.isEmpty = false := by cases r <;> first | rfl | exact absurd rfl hr
        rw [if_pos ⟨k3, fun h => hr h.1⟩] at hR2
        clear k3 hr
        have ew : wrap64 (ln + 1) = ln + 1 := by have := HLN.out; unfold wrap64; omega
        by_cases k8 : 8 < ln + 1
        ·rw [if_pos k8] at hR2
         have e8 : decide (8 < ln + 1) = true := decide_eq_true k8
         have hR3 := Option.some.inj hR2
         simp only [Prod.mk.injEq] at hR3
         obtain ⟨rfl, rfl⟩ := hR3
         clear hR2 k8
         go_wp2_with (first
          | (go_at_call 38; refine (entry_calls k1 g base A c l sm s a x tt _ (HV.out.below HB.out) (Kd.C_below HC.out HB.out) HP.out HE.out).mono ?_; rintro e w3 ⟨rfl, hb3⟩; have B3 := ak_ (below_step HB.out hb3); have D3 := ak_ hb3; have q6 : w3.cell? ⟨g, 6, none⟩ = some (.map (some bi)) := (blk_cell (blk_below GB.out B3.out) 6).trans rfl; have lk := lookN (MI.out.below B3.out) HTW.out HN2.out; clear hb3 z0)
          | ((with_reducible refine gate_dst (N := 33) rfl ?_); refine tail_event rfl (.tmp 32) rfl (b := b_) (off := o_) (cn := cn) (m := r.length) rfl (by have := HCP.out; simpa using this) ?_; intro A' hA'; have HT3 := ak_ (C_tail2 (Kd.C_below HNR.out D3.out) hA' (by have := HCP.out; simpa using this)); clear hA')
          | ((with_reducible refine gate_dst (N := 10) rfl ?_); refine var_event (N := 10) (T := 31) (n := 5) (zc := #[.int .u8 0, .int .u16 0, .int .u32 0, .int .u32 0, .string ⟨#[]⟩]) (cs := #[.int .u8 n2.kd, .int .u16 n2.md, .int .u32 n2.ln, .int .u32 n2.sz, .string n2.tg]) rfl rfl rfl (.tmp 39) rfl rfl ?hr (by kernel_rfl) rfl rfl rfl ?hx ?hN ?_; (case hx => intro p_; rfl); (case hN => intro p_; rfl); (case hr => first | (go_simp; done) | (go_simp; rfl)); intro gn hgn w4 hx4 hb4; have Z4 := ak_ hx4; have D4 := ak_ hb4; have B4 := ak_ (below_step B3.out hb4); have y0 : w4.cell? ⟨gn, 0, none⟩ = some (.int .u8 n2.kd) := (blk_cell Z4.out 0).trans rfl; have y4 : w4.cell? ⟨gn, 4, none⟩ = some (.string n2.tg) := (blk_cell Z4.out 4).trans rfl; clear hx4 hb4 hgn q6 lk))
         go_ret2
         exact ⟨rfl, B4.out⟩
        ·rw [if_neg k8] at hR2
         have e8 : decide (8 < ln + 1) = false := decide_eq_false k8
         obtain ⟨⟨p1, wp⟩, hp, hR2⟩ := Option.bind_eq_some_iff.mp hR2
         have HS := ak_ hp
         have HL8 := ak_ k8
         clear hp k8
         by_cases k9 : wp = 0
         ·rw [if_pos k9] at hR2
          subst k9
          split at hR2
          case isFalse => cases hR2
          case isTrue hql =>
          have HQL := ak_ hql
          have HRR := ak_ hR2
          clear hR2 hql
          go_wp2_with (first
           | (go_at_call 38; refine (entry_calls k1 g base A c l sm s a x tt _ (HV.out.below HB.out) (Kd.C_below HC.out HB.out) HP.out HE.out).mono ?_; rintro e w3 ⟨rfl, hb3⟩; have B3 := ak_ (below_step HB.out hb3); have D3 := ak_ hb3; have q6 : w3.cell? ⟨g, 6, none⟩ = some (.map (some bi)) := (blk_cell (blk_below GB.out B3.out) 6).trans rfl; have lk := lookN (MI.out.below B3.out) HTW.out HN2.out; clear hb3 z0)
           | ((with_reducible refine gate_dst (N := 33) rfl ?_); refine tail_event rfl (.tmp 32) rfl (b := b_) (off := o_) (cn := cn) (m := r.length) rfl (by have := HCP.out; simpa using this) ?_; intro A' hA'; have HT3 := ak_ (C_tail2 (Kd.C_below HNR.out D3.out) hA' (by have := HCP.out; simpa using this)); clear hA')
           | ((with_reducible refine gate_dst (N := 10) rfl ?_); refine var_event (N := 10) (T := 31) (n := 5) (zc := #[.int .u8 0, .int .u16 0, .int .u32 0, .int .u32 0, .string ⟨#[]⟩]) (cs := #[.int .u8 n2.kd, .int .u16 n2.md, .int .u32 n2.ln, .int .u32 n2.sz, .string n2.tg]) rfl rfl rfl (.tmp 39) rfl rfl ?hr (by kernel_rfl) rfl rfl rfl ?hx ?hN ?_; (case hx => intro p_; rfl); (case hN => intro p_; rfl); (case hr => first | (go_simp; done) | (go_simp; rfl)); intro gn hgn w4 hx4 hb4; have Z4 := ak_ hx4; have D4 := ak_ hb4; have B4 := ak_ (below_step B3.out hb4); have y0 : w4.cell? ⟨gn, 0, none⟩ = some (.int .u8 n2.kd) := (blk_cell Z4.out 0).trans rfl; have y4 : w4.cell? ⟨gn, 4, none⟩ = some (.string n2.tg) := (blk_cell Z4.out 4).trans rfl; clear hx4 hb4 hgn q6 lk)
           | (go_at_call 39; refine (path_Split.calls k1 n2.tg p1 0 _ HS.out).mono ?_; rintro e w5 ⟨v5, rfl, ho5, hb5⟩; have R5 := ak_ ho5; have D45 := ak_ (below_step D4.out hb5); have B5 := ak_ (below_step B4.out hb5); obtain ⟨A5, c5, rfl⟩ := Kd.R_slice ho5; clear ho5 hb5 y0 y4)
           | ((with_reducible refine gate_dst (N := 67) rfl ?_); refine litv_event (cs := #[.slice A5 p1.length c5, .slice A' r.length (cn - 1)]) (t := 23) (n := 2) rfl ?hr ?_; (case hr => first | (go_simp; done) | (go_simp; rfl)); intro gq hgq w6 hx6 hb6; have Q6 := ak_ hx6; have D6 := ak_ hb6; have B6 := ak_ (below_step B5.out hb6); clear hx6 hb6 hgq)
           | (go_at_call 40; refine (concat_calls gq 23 A5 A' c5 (cn - 1) p1 r _ Q6.out (Kd.C_below (Kd.R_reads' R5.out).2.2 D6.out) (Kd.C_below (Kd.C_below HT3.out D45.out) D6.out) HQL.out).mono ?_; rintro e w7 ⟨v7, rfl, ho7, hb7⟩; have R7 := ak_ ho7; have B7 := ak_ (below_step B6.out hb7); obtain ⟨A7, c7, hv7⟩ := Kd.R_slice ho7; obtain ⟨n7, hn7⟩ : ∃ n7, n7 = (p1 ++ r).length := ⟨_, rfl⟩; rw [← hn7] at hv7; subst hv7; have N7 := ak_ hn7; clear ho7 hb7 hn7))
          go_roundg k1
          case measure => have := HK1.out; omega
          case rel => exact ⟨A7, c7, p1 ++ r, 1, ln + 1, (by rw [N7.out]), rfl, rfl, HRR, ⟨by have := HK1.out; omega⟩, ⟨by decide⟩, ⟨by have := HLN.out; have := HL8.out; omega⟩, ⟨by rw [← N7.out]; exact (Kd.R_reads' R7.out).2.1⟩, ⟨by have := (Kd.R_reads' R7.out).2.2; first | exact this | (rw [N7.out] at this; exact this)⟩, B7⟩
         ·rw [if_neg k9] at hR2
          have e9 : (wp != 0) = true := bne_iff_ne.2 k9
          have hR3 := Option.some.inj hR2
          simp only [Prod.mk.injEq] at hR3
          obtain ⟨rfl, rfl⟩ := hR3
          clear hR2 k9
          go_wp2_with (first
           | (go_at_call 38; refine (entry_calls k1 g base A c l sm s a x tt _ (HV.out.below HB.out) (Kd.C_below HC.out HB.out) HP.out HE.out).mono ?_; rintro e w3 ⟨rfl, hb3⟩; have B3 := ak_ (below_step HB.out hb3); have D3 := ak_ hb3; have q6 : w3.cell? ⟨g, 6, none⟩ = some (.map (some bi)) := (blk_cell (blk_below GB.out B3.out) 6).trans rfl; have lk := lookN (MI.out.below B3.out) HTW.out HN2.out; clear hb3 z0)
           | ((with_reducible refine gate_dst (N := 33) rfl ?_); refine tail_event rfl (.tmp 32) rfl (b := b_) (off := o_) (cn := cn) (m := r.length) rfl (by have := HCP.out; simpa using this) ?_; intro A' hA'; have HT3 := ak_ (C_tail2 (Kd.C_below HNR.out D3.out) hA' (by have := HCP.out; simpa using this)); clear hA')
           | ((with_reducible refine gate_dst (N := 10) rfl ?_); refine var_event (N := 10) (T := 31) (n := 5) (zc := #[.int .u8 0, .int .u16 0, .int .u32 0, .int .u32 0, .string ⟨#[]⟩]) (cs := #[.int .u8 n2.kd, .int .u16 n2.md, .int .u32 n2.ln, .int .u32 n2.sz, .string n2.tg]) rfl rfl rfl (.tmp 39) rfl rfl ?hr (by kernel_rfl) rfl rfl rfl ?hx ?hN ?_; (case hx => intro p_; rfl); (case hN => intro p_; rfl); (case hr => first | (go_simp; done) | (go_simp; rfl)); intro gn hgn w4 hx4 hb4; have Z4 := ak_ hx4; have D4 := ak_ hb4; have B4 := ak_ (below_step B3.out hb4); have y0 : w4.cell? ⟨gn, 0, none⟩ = some (.int .u8 n2.kd) := (blk_cell Z4.out 0).trans rfl; have y4 : w4.cell? ⟨gn, 4, none⟩ = some (.string n2.tg) := (blk_cell Z4.out 4).trans rfl; clear hx4 hb4 hgn q6 lk)
           | (go_at_call 39; refine (path_Split.calls k1 n2.tg p1 wp _ HS.out).mono ?_; rintro e w5 ⟨v5, rfl, ho5, hb5⟩; have R5 := ak_ ho5; have D45 := ak_ (below_step D4.out hb5); have B5 := ak_ (below_step B4.out hb5); obtain ⟨A5, c5, rfl⟩ := Kd.R_slice ho5; clear ho5 hb5 y0 y4))
          go_ret2
          exact ⟨rfl, B5.out⟩
      ·have e3 : (n2.kd != 3) = true := bne_iff_ne.2 k3
       rw [if_neg (fun h => k3 h.1)] at hR2
       have HRR := ak_ hR2
       clear hR2 k3
       go_wp2_with (first
        | (go_at_call 38; refine (entry_calls k1 g base A c l sm s a x tt _ (HV.out.below HB.out) (Kd.C_below HC.out HB.out) HP.out HE.out).mono ?_; rintro e w3 ⟨rfl, hb3⟩; have B3 := ak_ (below_step HB.out hb3); have D3 := ak_ hb3; have q6 : w3.cell? ⟨g, 6, none⟩ = some (.map (some bi)) := (blk_cell (blk_below GB.out B3.out) 6).trans rfl; have lk := lookN (MI.out.below B3.out) HTW.out HN2.out; clear hb3 z0)
        | ((with_reducible refine gate_dst (N := 33) rfl ?_); refine tail_event rfl (.tmp 32) rfl (b := b_) (off := o_) (cn := cn) (m := r.length) rfl (by have := HCP.out; simpa using this) ?_; intro A' hA'; have HT3 := ak_ (C_tail2 (Kd.C_below HNR.out D3.out) hA' (by have := HCP.out; simpa using this)); clear hA')
        | ((with_reducible refine gate_dst (N := 10) rfl ?_); refine var_event (N := 10) (T := 31) (n := 5) (zc := #[.int .u8 0, .int .u16 0, .int .u32 0, .int .u32 0, .string ⟨#[]⟩]) (cs := #[.int .u8 n2.kd, .int .u16 n2.md, .int .u32 n2.ln, .int .u32 n2.sz, .string n2.tg]) rfl rfl rfl (.tmp 39) rfl rfl ?hr (by kernel_rfl) rfl rfl rfl ?hx ?hN ?_; (case hx => intro p_; rfl); (case hN => intro p_; rfl); (case hr => first | (go_simp; done) | (go_simp; rfl)); intro gn hgn w4 hx4 hb4; have Z4 := ak_ hx4; have D4 := ak_ hb4; have B4 := ak_ (below_step B3.out hb4); have y0 : w4.cell? ⟨gn, 0, none⟩ = some (.int .u8 n2.kd) := (blk_cell Z4.out 0).trans rfl; have y4 : w4.cell? ⟨gn, 4, none⟩ = some (.string n2.tg) := (blk_cell Z4.out 4).trans rfl; clear hx4 hb4 hgn q6 lk))
       go_roundg k1
       case measure => have := HK1.out; omega
       case rel => exact ⟨A', cn - 1, r, tt, ln, rfl, rfl, rfl, HRR, ⟨by have := HK1.out; omega⟩, HTW, HLN, ⟨by first | (simp; done) | (have := HCP.out; simp at this; omega)⟩, ⟨Kd.C_below HT3.out D4.out⟩, B4⟩
    ·rw [if_neg k0] at hR
     have e0 : (n1.kd != 1) = true := bne_iff_ne.2 k0
     have hR3 := Option.some.inj hR
     simp only [Prod.mk.injEq] at hR3
     obtain ⟨rfl, rfl⟩ := hR3
     clear hR k0
     go_wp2
     go_ret2
     exact ⟨rfl, HB.out⟩
end Go.Proofs.YtpnmajblhgnkoaaGreat.Z
end

section
namespace Go.Proofs.YtpnmajblhgnkoaaGreat.Z
attribute [local go_sem ↓] Go.wp_at_zero Go.wp_at_succ
theorem info_entry : (Tryz.prog.info? 43).map (fun i => (i.zero, i.size, i.bytes)) = some (some (.agg #[.string ⟨#[]⟩, .int .u32 0, .int .u8 0]), 3, 24) := by kernel_rfl
theorem erow_base {w : World} {base : Nat} {v : Value} {l : List S43} (h : k43.R 43 w base (fun _ => True) v l) (b : Nat) (e : v.ownBlock = some b) : base ≤ b := by
 obtain ⟨inner, ho⟩ := Kd.R_own h
 exact own_base ho b e
def listL (k : Nat) (s : VS) (ino : Int) : List KItm → List S43 → Option (List S43)
 | [], acc => some acc
 | x :: r, acc => if x.f0 = 2 ∧ x.f1 = ino then (dirs_number.f k x.f4).bind fun t => if acc.length < 4398046511104 then listL k s ino r (acc ++ [⟨x.f2, t, ((s.ino t).getD zI).kd⟩]) else none else listL k s ino r acc
theorem listL.mono (s : VS) (ino : Int) : ∀ (l : List KItm) (acc : List S43) (k : Nat), LeO (listL k s ino l acc) (listL (k + 1) s ino l acc)
 | [], acc, k => LeO.refl _
 | x :: r, acc, k => by
  unfold listL
  exact LeO.ite (LeO.bind (dirs_number.mono _ _) (fun _ => LeO.ite (listL.mono s ino r _ k) (LeO.none _))) (listL.mono s ino r _ k)
set_option maxRecDepth 100000 in
set_option maxHeartbeats 6400000 in
theorem list_calls (k : Nat) (g base : Nat) (it : Value) (d m sm : Int) (r : Bool) (s : VS) (ino : Int) (res : List S43) (w : World) (hV : VolR w g base it d m sm r s) (h : listL k s ino s.all [] = some res) :
  Calls Tryz.prog 25 #[.pointer (some ⟨g, 0, none⟩), .int .u32 ino] w fun e w' => ∃ v, e = .returned v ∧ k43.R 43 w' w.heap.size (fun _ => True) v res ∧ Below w.heap.size w w' := by
 have hok := hV.ok
 obtain ⟨va, bi, bu, hG, hA, hI, _⟩ := hV
 obtain ⟨A1, c1, rfl⟩ := Kd.R_slice hA
 have RA := ak_ (Kd.R_reads' hA)
 have HOK := ak_ hok
 have GB := ak_ hG
 have MI := ak_ hI
 have H := ak_ h
 have q5 : w.cell? ⟨g, 5, none⟩ = some (.slice A1 s.all.length c1) := (blk_cell hG 5).trans rfl
 clear hok hG hA hI h
 go_enter Tryz.func25, Tryz.ntmps25
 go_wp2
 clear q5
 go_loopw [5, 14] (fun vo vi wr => ∃ (i : Int) (acc : List S43), vi = .int .i64 i ∧ Aside0 (0 ≤ i ∧ i ≤ s.all.length) ∧ Aside0 (k43.R 43 wr w.heap.size (fun _ => True) vo acc) ∧ Aside0 (Below w.heap.size w wr) ∧ Aside0 (listL k s ino (s.all.drop i.toNat) acc = some res)) (fun _ vi _ => s.all.length - (intOf vi).toNat)
 case atStart => exact ⟨0, [], rfl, ⟨by omega⟩, ⟨Kd.R_nil _ _ _ _ _⟩, ⟨Below.refl _ _⟩, H⟩
 case round =>
  obtain ⟨i, acc, rfl, HX, HA, HBW, HRL⟩ := hrel
  obtain ⟨hi0, hi1⟩ := HX.out
  by_cases hlt : i < (s.all.length : Int)
  ·obtain ⟨A0, c0, hv⟩ := Kd.R_slice HA.out
   subst hv
   obtain ⟨ad, hAd, q0, q1, q2, q3, q4⟩ := at_Kept RA.out.2.2 i hi0 hlt
   subst hAd
   replace q0 := (HBW.out.cell (World.block_lt_of_cell? w _ q0)).trans q0
   replace q1 := (HBW.out.cell (World.block_lt_of_cell? w _ q1)).trans q1
   replace q2 := (HBW.out.cell (World.block_lt_of_cell? w _ q2)).trans q2
   replace q3 := (HBW.out.cell (World.block_lt_of_cell? w _ q3)).trans q3
   replace q4 := (HBW.out.cell (World.block_lt_of_cell? w _ q4)).trans q4
   have hlt2 : decide (i < (s.all.length : Int)) = true := decide_eq_true hlt
   have p0 := eq_true hi0
   have p1 := eq_true hlt
   obtain ⟨x, hx⟩ : ∃ x, x = rd_Kept s.all i := ⟨_, rfl⟩
   have hR0 := HRL.out
   rw [drop_Kept hi0 hlt, listL, ← hx] at hR0
   rw [← hx] at q0 q1 q2 q3 q4
   have ew : wrap64 (i + 1) = i + 1 := by have := HOK.out.2.2.1; unfold wrap64; omega
   have EW := ak_ ew
   have LT := ak_ hlt
   have HR0 := ak_ hR0
   clear ew hlt hi0 hi1 hx hR0
   by_cases hk : x.f0 = 2
   ·have e0 : (x.f0 == 2) = true := beq_iff_eq.2 hk
    by_cases hk1 : x.f1 = ino
    ·have e1 : (x.f1 == ino) = true := beq_iff_eq.2 hk1
     have hR := HR0.out
     rw [if_pos ⟨hk, hk1⟩] at hR
     obtain ⟨tt, ht, hR⟩ := Option.bind_eq_some_iff.mp hR
     split at hR
     case isFalse => cases hR
     case isTrue hq =>
     obtain ⟨n, hn⟩ : ∃ n, n = (s.ino tt).getD zI := ⟨_, rfl⟩
     rw [← hn] at hR
     have HT := ak_ ht
     have HTW := ak_ (number_wf ht)
     have HN := ak_ hn
     have HQ := ak_ hq
     have HR2 := ak_ hR
     clear hk hk1 hR ht hn hq HR0
     go_wp2_with (first | ((with_reducible refine gate_dst (N := 7) rfl ?_); refine var_event (N := 7) (T := 93) (n := 5) (zc := #[.int .u8 0, .int .u32 0, .string ⟨#[]⟩, .int .u32 0, .string ⟨#[]⟩]) (cs := #[.int .u8 x.f0, .int .u32 x.f1, .string x.f2, .int .u32 x.f3, .string x.f4]) rfl rfl rfl (.tmp 17) rfl rfl ?hr (by kernel_rfl) rfl rfl rfl ?hx ?hN ?_; (case hx => intro p_; rfl); (case hN => intro p_; rfl); (case hr => first | (go_simp; done) | (go_simp; rfl)); intro gx hgx w3 hx3 hb3; have X3 := ak_ hx3; have B3 := ak_ (below_step HBW.out hb3); have A3 := ak_ (Kd.R_below HA.out hb3); have y0 : w3.cell? ⟨gx, 0, none⟩ = some (.int .u8 x.f0) := (blk_cell X3.out 0).trans rfl; have y1 : w3.cell? ⟨gx, 1, none⟩ = some (.int .u32 x.f1) := (blk_cell X3.out 1).trans rfl; have y4 : w3.cell? ⟨gx, 4, none⟩ = some (.string x.f4) := (blk_cell X3.out 4).trans rfl; clear hx3 hb3 hgx q0 q1 q2 q3 q4) | (go_at_call 43; refine (dirs_number.calls k x.f4 tt _ HT.out).mono ?_; rintro e w4 ⟨rfl, hd⟩; have X4 := ak_ (blk_below X3.out hd.below); have B4 := ak_ (below_step B3.out hd.below); have A4 := ak_ (Kd.R_below A3.out hd.below); clear hd y0 y1 y4))
     have G4 := ak_ (blk_below GB.out B4.out)
     have I4 := ak_ (MI.out.below B4.out)
     refine start_ (n := 16) (S := (fun w' => w'.cell? ⟨g, 6, none⟩ = some (.map (some bi)) ∧ w'.cell? ⟨gx, 2, none⟩ = some (.string x.f2) ∧ (Instr.lookup 83 (.map (some bi)) (.int .u32 tt) false).run Tryz.prog w' = .ok (.agg #[.int .u8 n.kd, .int .u16 n.md, .int .u32 n.ln, .int .u32 n.sz, .string n.tg]) w')) (ds := [14]) #[false, false, false, false, false, false, false, false, false, false, false, false, false, false, false, false] (by kernel_rfl) rfl rfl ⟨(blk_cell (blk_below G4.out (show Below w4.heap.size w4 w4.drew from below_drew1 (Below.refl _ _))) 6).trans rfl, (blk_cell (blk_below X4.out (show Below w4.heap.size w4 w4.drew from below_drew1 (Below.refl _ _))) 2).trans rfl, (lookN (I4.out.below (show Below w4.heap.size w4 w4.drew from below_drew1 (Below.refl _ _))) HTW.out HN.out)⟩ (fun hHeld => ?_)
     refine pure_ (i := 0) (N := some 32) (v := ?_) (a' := ?_) #[true, false, false, false, false, false, false, false, false, false, false, false, false, false, false, false] rfl rfl (by kernel_rfl) (fun _ _ _ h => h) (Or.inl ⟨by rfl, ?_⟩) ?_ ?_
     rotate_left
     ·intro w'
      go_simp
      with_reducible rfl
     rotate_left
     ·simp only [Act.put, List.setIfInBounds_toArray, List.set_cons_zero, List.set_cons_succ, i64_w, i32_w]
      rfl
     refine pure_ (i := 1) (N := some 33) (v := ?_) (a' := ?_) #[true, true, false, false, false, false, false, false, false, false, false, false, false, false, false, false] rfl rfl (by kernel_rfl) (fun _ _ _ h => h) (Or.inl ⟨by rfl, ?_⟩) ?_ ?_
     rotate_left
     ·intro w'
      go_simp
      with_reducible rfl
     rotate_left
     ·simp only [Act.put, List.setIfInBounds_toArray, List.set_cons_zero, List.set_cons_succ, i64_w, i32_w]
      rfl
     refine pure_ (i := 2) (N := some 34) (v := ?_) (a' := ?_) #[true, true, true, false, false, false, false, false, false, false, false, false, false, false, false, false] rfl rfl (by kernel_rfl) (fun _ _ _ h => h) (Or.inl ⟨by rfl, ?_⟩) ?_ ?_
     rotate_left
     ·intro w'
      go_simp
      with_reducible rfl
     rotate_left
     ·simp only [Act.put, List.setIfInBounds_toArray, List.set_cons_zero, List.set_cons_succ, i64_w, i32_w]
      rfl
     refine take_ (i := 3) (N := some 35) (v := ?_) (a' := ?_) #[true, true, true, true, false, false, false, false, false, false, false, false, false, false, false, false] rfl rfl (by kernel_rfl) (fun _ _ _ h => h) (Or.inl ⟨by rfl, ?_⟩) hHeld ?_ ?_
     rotate_left
     ·rintro w' ⟨s0, s1, s2⟩
      go_simp
      with_reducible rfl
     rotate_left
     ·simp only [Act.put, List.setIfInBounds_toArray, List.set_cons_zero, List.set_cons_succ, i64_w, i32_w]
      rfl
     refine pure_ (i := 4) (N := some 36) (v := ?_) (a' := ?_) #[true, true, true, true, true, false, false, false, false, false, false, false, false, false, false, false] rfl rfl (by kernel_rfl) (fun _ _ _ h => h) (Or.inl ⟨by rfl, ?_⟩) ?_ ?_
     rotate_left
     ·intro w'
      go_simp
      with_reducible rfl
     rotate_left
     ·simp only [Act.put, List.setIfInBounds_toArray, List.set_cons_zero, List.set_cons_succ, i64_w, i32_w]
      rfl
     refine pure_ (i := 5) (N := some 37) (v := ?_) (a' := ?_) #[true, true, true, true, true, true, false, false, false, false, false, false, false, false, false, false] rfl rfl (by kernel_rfl) (fun _ _ _ h => h) (Or.inl ⟨by rfl, ?_⟩) ?_ ?_
     rotate_left
     ·intro w'
      go_simp
      with_reducible rfl
     rotate_left
     ·simp only [Act.put, List.setIfInBounds_toArray, List.set_cons_zero, List.set_cons_succ, i64_w, i32_w]
      rfl
     refine pure_ (i := 6) (N := some 38) (v := ?_) (a' := ?_) #[true, true, true, true, true, true, true, false, false, false, false, false, false, false, false, false] rfl rfl (by kernel_rfl) (fun _ _ _ h => h) (Or.inl ⟨by rfl, ?_⟩) ?_ ?_
     rotate_left
     ·intro w'
      go_simp
      with_reducible rfl
     rotate_left
     ·simp only [Act.put, List.setIfInBounds_toArray, List.set_cons_zero, List.set_cons_succ, i64_w, i32_w]
      rfl
     refine pure_ (i := 7) (N := some 39) (v := ?_) (a' := ?_) #[true, true, true, true, true, true, true, true, false, false, false, false, false, false, false, false] rfl rfl (by kernel_rfl) (fun _ _ _ h => h) (Or.inl ⟨by rfl, ?_⟩) ?_ ?_
     rotate_left
     ·intro w'
      go_simp
      with_reducible rfl
     rotate_left
     ·simp only [Act.put, List.setIfInBounds_toArray, List.set_cons_zero, List.set_cons_succ, i64_w, i32_w]
      rfl
     refine take_ (i := 8) (N := some 40) (v := ?_) (a' := ?_) #[true, true, true, true, true, true, true, true, true, false, false, false, false, false, false, false] rfl rfl (by kernel_rfl) (fun _ _ _ h => h) (Or.inl ⟨by rfl, ?_⟩) hHeld ?_ ?_
     rotate_left
     ·rintro w' ⟨s0, s1, s2⟩
      go_simp
      with_reducible rfl
     rotate_left
     ·simp only [Act.put, List.setIfInBounds_toArray, List.set_cons_zero, List.set_cons_succ, i64_w, i32_w]
      rfl
     refine pure_ (i := 9) (N := some 41) (v := ?_) (a' := ?_) #[true, true, true, true, true, true, true, true, true, true, false, false, false, false, false, false] rfl rfl (by kernel_rfl) (fun _ _ _ h => h) (Or.inl ⟨by rfl, ?_⟩) ?_ ?_
     rotate_left
     ·intro w'
      go_simp
      with_reducible rfl
     rotate_left
     ·simp only [Act.put, List.setIfInBounds_toArray, List.set_cons_zero, List.set_cons_succ, i64_w, i32_w]
      rfl
     refine take_ (i := 10) (N := some 42) (v := ?_) (a' := ?_) #[true, true, true, true, true, true, true, true, true, true, true, false, false, false, false, false] rfl rfl (by kernel_rfl) (fun _ _ _ h => h) (Or.inl ⟨by rfl, ?_⟩) hHeld ?_ ?_
     rotate_left
     ·rintro w' ⟨s0, s1, s2⟩
      go_simp
      with_reducible rfl
     rotate_left
     ·simp only [Act.put, List.setIfInBounds_toArray, List.set_cons_zero, List.set_cons_succ, i64_w, i32_w]
      rfl
     refine pure_ (i := 11) (N := some 43) (v := ?_) (a' := ?_) #[true, true, true, true, true, true, true, true, true, true, true, true, false, false, false, false] rfl rfl (by kernel_rfl) (fun _ _ _ h => h) (Or.inl ⟨by rfl, ?_⟩) ?_ ?_
     rotate_left
     ·intro w'
      go_simp
      rfl
     rotate_left
     ·simp only [Act.put, List.setIfInBounds_toArray, List.set_cons_zero, List.set_cons_succ, i64_w, i32_w]
      rfl
     refine pure_ (i := 12) (N := some 44) (v := ?_) (a' := ?_) #[true, true, true, true, true, true, true, true, true, true, true, true, true, false, false, false] rfl rfl (by kernel_rfl) (fun _ _ _ h => h) (Or.inl ⟨by rfl, ?_⟩) ?_ ?_
     rotate_left
     ·intro w'
      go_simp
      with_reducible rfl
     rotate_left
     ·simp only [Act.put, List.setIfInBounds_toArray, List.set_cons_zero, List.set_cons_succ, i64_w, i32_w]
      rfl
     refine one_ (i := 13) (N := some 45) #[true, true, true, true, true, true, true, true, true, true, true, true, true, true, false, false] rfl rfl (by kernel_rfl) (by decide) (fun K hK => ?_)
     refine Kd.R_lit_step k43 (w0 := w4.drew) w4.drew.heap.size 43 (by rfl) (N := 45) rfl (xs := [(⟨x.f2, tt, n.kd⟩ : S43)]) (inner := [.string x.f2, .int .u32 tt, .int .u8 n.kd]) (ok := fun _ => True) (okp := fun _ => True) (by first | (go_simp; done) | (go_simp; rfl)) (Reps.c3 (k43_mkM _ _ _ (⟨x.f2, tt, n.kd⟩ : S43)) (Reps.none _ _)) (fun _ hk => hk) trivial (Below.refl _ _) (Nat.le_refl _) (by simp) ?_
     intro v8 w8 ho hb hg_ hnew_
     have R8 := ak_ ho
     have B8 := ak_ (show Below w4.heap.size w4 w8 from below_then (show Below w4.heap.size w4 w4.drew from below_drew1 (Below.refl _ _)) (show Below w4.heap.size w4 w4.drew from below_drew1 (Below.refl _ _)).size hb)
     obtain ⟨A8, c8, rfl⟩ := Kd.R_slice ho
     clear ho hb hg_ hnew_
     refine hK.out _ _ ⟨(blk_cell (blk_below G4.out B8.out) 6).trans rfl, (blk_cell (blk_below X4.out B8.out) 2).trans rfl, (lookN (I4.out.below B8.out) HTW.out HN.out)⟩ (fun hHeld => ?_)
     clear hK K
     refine norm_ (a' := ?_) ?_ ?_
     rotate_left
     ·show Act.put _ (some 45) _ = _
      simp only [Act.put, List.setIfInBounds_toArray, List.set_cons_zero, List.set_cons_succ, i64_w, i32_w]
      rfl
     refine last_ (i := 14) (N := some 46) #[true, true, true, true, true, true, true, true, true, true, true, true, true, true, true, false] rfl rfl (by kernel_rfl) (by decide) (fun K hK => ?_)
     refine Kd.R_append_rows_step k43 (w0 := w8) w.heap.size (by rfl) (.tmp 32) (.tmp 45) 34 43 (.agg #[.string ⟨#[]⟩, .int .u32 0, .int .u8 0]) 24 rfl Tryz.underlying34 info_entry rfl (by decide) (by omega) (.slice A0 acc.length c0) acc [(⟨x.f2, tt, n.kd⟩ : S43)] _ _ _ (fun _ => True) (fun _ => False) rfl rfl ?aO ?aR (fun _ _ h => h) (fun _ h => h.elim) ?aF ?aB ?aS ?aL ?_
     case aR => exact (Kd.R_reads' R8.out).2.2
     case aB => exact Below.refl _ _
     case aF => exact fun _ _ => trivial
     case aO => exact Kd.R_below A4.out B8.out
     case aS => exact Nat.le_trans B4.out.size B8.out.size
     case aL => have := HQ.out; simp; omega
     intro v9 w9 ho hb hg hat
     have R9 := ak_ ho
     have B9 := ak_ (show Below w.heap.size w w9 from (below_step B4.out B8.out).grown hg (Nat.le_trans B4.out.size B8.out.size) (fun j hj => erow_base (Kd.R_below A4.out B8.out) j hj))
     clear ho hb hg hat
     refine hK.out _ _ ?_
     clear hK K
     refine norm_ (a' := ?_) ?_ ?_
     rotate_left
     ·show Act.put _ (some 46) _ = _
      simp only [Act.put, List.setIfInBounds_toArray, List.set_cons_zero, List.set_cons_succ, i64_w, i32_w]
      rfl
     refine pure_ (i := 15) (N := some 5) (v := ?_) (a' := ?_) #[true, true, true, true, true, true, true, true, true, true, true, true, true, true, true, true] rfl rfl (by kernel_rfl) (fun _ _ _ h => h) (Or.inl ⟨by rfl, ?_⟩) ?_ ?_
     rotate_left
     ·intro w'
      go_simp
      with_reducible rfl
     rotate_left
     ·simp only [Act.put, List.setIfInBounds_toArray, List.set_cons_zero, List.set_cons_succ, i64_w, i32_w]
      rfl
     refine done_ (by kernel_rfl) ?_
     clear hHeld
     go_wp2
     have hx := HX.out
     have hl := LT.out
     go_roundw
     case rel => exact ⟨i + 1, acc ++ [⟨x.f2, tt, n.kd⟩], by rw [EW.out], ⟨by omega⟩, R9, B9, HR2⟩
     case measure =>
      simp [EW.out, intOf]
      omega
    ·have e1 : (x.f1 == ino) = false := beq_eq_false_iff_ne.2 hk1
     have HR2 := ak_ (show listL k s ino (s.all.drop (i + 1).toNat) acc = some res by have := HR0.out; rw [if_neg (fun h => hk1 h.2)] at this; exact this)
     clear hk hk1 HR0
     go_wp2_with (first | ((with_reducible refine gate_dst (N := 7) rfl ?_); refine var_event (N := 7) (T := 93) (n := 5) (zc := #[.int .u8 0, .int .u32 0, .string ⟨#[]⟩, .int .u32 0, .string ⟨#[]⟩]) (cs := #[.int .u8 x.f0, .int .u32 x.f1, .string x.f2, .int .u32 x.f3, .string x.f4]) rfl rfl rfl (.tmp 17) rfl rfl ?hr (by kernel_rfl) rfl rfl rfl ?hx ?hN ?_; (case hx => intro p_; rfl); (case hN => intro p_; rfl); (case hr => first | (go_simp; done) | (go_simp; rfl)); intro gx hgx w3 hx3 hb3; have X3 := ak_ hx3; have B3 := ak_ (below_step HBW.out hb3); have A3 := ak_ (Kd.R_below HA.out hb3); have y0 : w3.cell? ⟨gx, 0, none⟩ = some (.int .u8 x.f0) := (blk_cell X3.out 0).trans rfl; have y1 : w3.cell? ⟨gx, 1, none⟩ = some (.int .u32 x.f1) := (blk_cell X3.out 1).trans rfl; have y4 : w3.cell? ⟨gx, 4, none⟩ = some (.string x.f4) := (blk_cell X3.out 4).trans rfl; clear hx3 hb3 hgx q0 q1 q2 q3 q4))
     have hx := HX.out
     have hl := LT.out
     go_roundw
     case rel => exact ⟨i + 1, acc, by rw [EW.out], ⟨by omega⟩, A3, B3, HR2⟩
     case measure =>
      simp [EW.out, intOf]
      omega
   ·have e0 : (x.f0 == 2) = false := beq_eq_false_iff_ne.2 hk
    have HR2 := ak_ (show listL k s ino (s.all.drop (i + 1).toNat) acc = some res by have := HR0.out; rw [if_neg (fun h => hk h.1)] at this; exact this)
    clear hk HR0
    go_wp2_with (first | ((with_reducible refine gate_dst (N := 7) rfl ?_); refine var_event (N := 7) (T := 93) (n := 5) (zc := #[.int .u8 0, .int .u32 0, .string ⟨#[]⟩, .int .u32 0, .string ⟨#[]⟩]) (cs := #[.int .u8 x.f0, .int .u32 x.f1, .string x.f2, .int .u32 x.f3, .string x.f4]) rfl rfl rfl (.tmp 17) rfl rfl ?hr (by kernel_rfl) rfl rfl rfl ?hx ?hN ?_; (case hx => intro p_; rfl); (case hN => intro p_; rfl); (case hr => first | (go_simp; done) | (go_simp; rfl)); intro gx hgx w3 hx3 hb3; have X3 := ak_ hx3; have B3 := ak_ (below_step HBW.out hb3); have A3 := ak_ (Kd.R_below HA.out hb3); have y0 : w3.cell? ⟨gx, 0, none⟩ = some (.int .u8 x.f0) := (blk_cell X3.out 0).trans rfl; have y1 : w3.cell? ⟨gx, 1, none⟩ = some (.int .u32 x.f1) := (blk_cell X3.out 1).trans rfl; have y4 : w3.cell? ⟨gx, 4, none⟩ = some (.string x.f4) := (blk_cell X3.out 4).trans rfl; clear hx3 hb3 hgx q0 q1 q2 q3 q4))
    have hx := HX.out
    have hl := LT.out
    go_roundw
    case rel => exact ⟨i + 1, acc, by rw [EW.out], ⟨by omega⟩, A3, B3, HR2⟩
    case measure =>
     simp [EW.out, intOf]
     omega
  ·have hge : decide (i < (s.all.length : Int)) = false := decide_eq_false hlt
   have hR := HRL.out
   rw [List.drop_eq_nil_of_le (by omega), listL] at hR
   obtain rfl := Option.some.inj hR
   clear hR HRL hlt hi0 hi1
   go_wp2
   go_ret
   exact ⟨_, rfl, HA.out, HBW.out⟩
end Go.Proofs.YtpnmajblhgnkoaaGreat.Z
end

section
namespace Go.Proofs.YtpnmajblhgnkoaaGreat.Z
attribute [local go_sem ↓] Go.wp_at_zero Go.wp_at_succ
set_option maxRecDepth 100000 in
theorem vopen_calls (A : Option Addr) (c : Nat) (l : List VIT) (w : World) : Calls Tryz.prog 18 #[.slice A l.length c] w fun e w' => ∃ g, e = .returned (.pointer (some ⟨g, 0, none⟩)) ∧ w.heap.size ≤ g ∧ w'.heap[g]? = some (volO (.slice A l.length c) (.slice none 0 0) (.map none) (.map none) 0 0 0 false) ∧ Below w.heap.size w w' := by
 go_enter Tryz.func18, Tryz.ntmps18
 go_wp2_with ((with_reducible refine gate_dst (N := 5) rfl ?_); refine box_event ?hg (N := 5) ?hd (cs := #[.slice A l.length c, .int .u32 0, .int .i32 0, .int .u32 0, .bool false, .slice none 0 0, .map none, .map none]) (t := 86) ?hr ?_; (case hd => rfl); (case hg => rfl); (case hr => first | (go_simp; done) | (go_simp; rfl)); intro g hg w1 hx hb; have X1 := ak_ hx; have B1 := ak_ hb; have GG := ak_ (show w.heap.size ≤ g by rw [hg]; exact Nat.le_refl _); clear hx hb hg)
 go_ret
 exact ⟨g, rfl, GG.out, X1.out, B1.out⟩
def dirs_Check.f (k : Nat) (l0 : List VIT) : Option (Int) := (lookF k l0).bind fun o => match o with | none => some 9 | some s => some 0
theorem dirs_Check.mono : ∀ a0 k, LeO (dirs_Check.f k a0) (dirs_Check.f (k + 1) a0) := fun a0 k => by
 unfold dirs_Check.f
 exact LeO.bind (lookF.mono _ _) (fun _ => LeO.refl _)
set_option maxRecDepth 100000 in
set_option maxHeartbeats 3200000 in
theorem dirs_Check.calls (k : Nat) (A0 : Option Addr) (c0 : Nat) (l0 : List VIT) (r : Int) (w : World) (hr0 : Kd.C k56 w A0 l0.length l0) (hc0 : l0.length ≤ c0) (h : dirs_Check.f k l0 = some r) :
  Calls Tryz.prog 13 #[.slice A0 l0.length c0] w fun e w' => e = .returned (.int .i64 r) ∧ Below w.heap.size w w' := by
 unfold dirs_Check.f at h
 have hnot : ∀ (x : Bool) (w : World), (Op.unary .not (.bool x)).run Tryz.prog w = .ok (.bool (!x)) w := fun _ _ => rfl
 obtain ⟨o, ho, h⟩ := Option.bind_eq_some_iff.mp h
 have HR := ak_ hr0
 have HC := ak_ hc0
 have HO := ak_ ho
 clear hr0 hc0 ho
 cases o with
 | none =>
  obtain rfl := Option.some.inj h
  clear h
  go_enter Tryz.func13, Tryz.ntmps13
  go_wp2_with (first
   | (go_at_call 18; refine (vopen_calls A0 c0 l0 _).mono ?_; rintro e w1 ⟨g, rfl, hg, hb1, hB1⟩; have GG := ak_ hg; have O1 := ak_ hb1; have B1 := ak_ hB1; have Z1 := ak_ (show w.heap.size ≤ w1.heap.size from B1.out.size); clear hg hb1 hB1)
   | (go_at_call 19; refine (right_calls k g A0 c0 l0 0 none _ O1.out (Kd.C_foot_came (Kd.heap_iso _ (Kd.heap_pair Kd.heap_string Kd.heap_string)) HR.out B1.out GG.out) HC.out HO.out).mono ?_; rintro e w2 ⟨rfl, hf2, hv2⟩; have B2 := ak_ (B1.out.trans (hf2.2 w.heap.size GG.out Z1.out)); clear hf2 hv2))
  go_ret
  exact ⟨rfl, B2.out⟩
 | some s =>
  obtain rfl := Option.some.inj h
  clear h
  go_enter Tryz.func13, Tryz.ntmps13
  go_wp2_with (first
   | (go_at_call 18; refine (vopen_calls A0 c0 l0 _).mono ?_; rintro e w1 ⟨g, rfl, hg, hb1, hB1⟩; have GG := ak_ hg; have O1 := ak_ hb1; have B1 := ak_ hB1; have Z1 := ak_ (show w.heap.size ≤ w1.heap.size from B1.out.size); clear hg hb1 hB1)
   | (go_at_call 19; refine (right_calls k g A0 c0 l0 0 (some s) _ O1.out (Kd.C_foot_came (Kd.heap_iso _ (Kd.heap_pair Kd.heap_string Kd.heap_string)) HR.out B1.out GG.out) HC.out HO.out).mono ?_; rintro e w2 ⟨rfl, hf2, hv2⟩; have B2 := ak_ (B1.out.trans (hf2.2 w.heap.size GG.out Z1.out)); have V2 := ak_ (hv2 s rfl); have R2 := ak_ (Kd.C_below HR.out B2.out); clear hf2 hv2))
  go_ret
  exact ⟨rfl, B2.out⟩
def dirs_Next.f (k : Nat) (l0 : List VIT) : Option (Int × Int) := (lookF k l0).bind fun o => match o with | none => some (0, 9) | some s => (nextL s.ino k 2).bind fun n => some (n, 0)
theorem dirs_Next.mono : ∀ a0 k, LeO (dirs_Next.f k a0) (dirs_Next.f (k + 1) a0) := fun a0 k => by
 unfold dirs_Next.f
 refine LeO.bind (lookF.mono _ _) (fun o => ?_)
 cases o with
 | none => exact LeO.refl _
 | some s => exact LeO.bind (nextL.mono _ _ _) (fun _ => LeO.refl _)
set_option maxRecDepth 100000 in
set_option maxHeartbeats 3200000 in
theorem dirs_Next.calls (k : Nat) (A0 : Option Addr) (c0 : Nat) (l0 : List VIT) (r1 r2 : Int) (w : World) (hr0 : Kd.C k56 w A0 l0.length l0) (hc0 : l0.length ≤ c0) (h : dirs_Next.f k l0 = some (r1, r2)) :
  Calls Tryz.prog 10 #[.slice A0 l0.length c0] w fun e w' => e = .returned (.tuple #[.int .u32 r1, .int .i64 r2]) ∧ Below w.heap.size w w' := by
 unfold dirs_Next.f at h
 have hnot : ∀ (x : Bool) (w : World), (Op.unary .not (.bool x)).run Tryz.prog w = .ok (.bool (!x)) w := fun _ _ => rfl
 obtain ⟨o, ho, h⟩ := Option.bind_eq_some_iff.mp h
 have HR := ak_ hr0
 have HC := ak_ hc0
 have HO := ak_ ho
 clear hr0 hc0 ho
 cases o with
 | none =>
  have h := Option.some.inj h
  simp only [Prod.mk.injEq] at h
  obtain ⟨rfl, rfl⟩ := h
  go_enter Tryz.func10, Tryz.ntmps10
  go_wp2_with (first
   | (go_at_call 18; refine (vopen_calls A0 c0 l0 _).mono ?_; rintro e w1 ⟨g, rfl, hg, hb1, hB1⟩; have GG := ak_ hg; have O1 := ak_ hb1; have B1 := ak_ hB1; have Z1 := ak_ (show w.heap.size ≤ w1.heap.size from B1.out.size); clear hg hb1 hB1)
   | (go_at_call 19; refine (right_calls k g A0 c0 l0 0 none _ O1.out (Kd.C_foot_came (Kd.heap_iso _ (Kd.heap_pair Kd.heap_string Kd.heap_string)) HR.out B1.out GG.out) HC.out HO.out).mono ?_; rintro e w2 ⟨rfl, hf2, hv2⟩; have B2 := ak_ (B1.out.trans (hf2.2 w.heap.size GG.out Z1.out)); clear hf2 hv2))
  go_ret2
  exact ⟨rfl, B2.out⟩
 | some s =>
  obtain ⟨n, hn, h⟩ := Option.bind_eq_some_iff.mp h
  have HN := ak_ hn
  have h := Option.some.inj h
  simp only [Prod.mk.injEq] at h
  obtain ⟨rfl, rfl⟩ := h
  clear hn
  go_enter Tryz.func10, Tryz.ntmps10
  go_wp2_with (first
   | (go_at_call 18; refine (vopen_calls A0 c0 l0 _).mono ?_; rintro e w1 ⟨g, rfl, hg, hb1, hB1⟩; have GG := ak_ hg; have O1 := ak_ hb1; have B1 := ak_ hB1; have Z1 := ak_ (show w.heap.size ≤ w1.heap.size from B1.out.size); clear hg hb1 hB1)
   | (go_at_call 19; refine (right_calls k g A0 c0 l0 0 (some s) _ O1.out (Kd.C_foot_came (Kd.heap_iso _ (Kd.heap_pair Kd.heap_string Kd.heap_string)) HR.out B1.out GG.out) HC.out HO.out).mono ?_; rintro e w2 ⟨rfl, hf2, hv2⟩; have B2 := ak_ (B1.out.trans (hf2.2 w.heap.size GG.out Z1.out)); have V2 := ak_ (hv2 s rfl); have R2 := ak_ (Kd.C_below HR.out B2.out); clear hf2 hv2)
   | (go_at_call 28; refine (next_calls k g w1.heap.size _ 1 0 0 true s n _ V2.out HN.out).mono ?_; rintro e w3 ⟨rfl, hb3⟩; have B3 := ak_ (below_step B2.out hb3); clear hb3))
  go_ret2
  exact ⟨rfl, B3.out⟩
def dirs_Walk.f (k : Nat) (l0 : List VIT) (names : List ByteArray) (follow : Bool) : Option (Int × Int) := (lookF k l0).bind fun o => match o with | none => some (0, 9) | some s => walkL l0 s follow k names 1 0
theorem dirs_Walk.mono : ∀ a0 a1 a2 k, LeO (dirs_Walk.f k a0 a1 a2) (dirs_Walk.f (k + 1) a0 a1 a2) := fun a0 a1 a2 k => by
 unfold dirs_Walk.f
 refine LeO.bind (lookF.mono _ _) (fun o => ?_)
 cases o with
 | none => exact LeO.refl _
 | some s => exact walkL.mono _ _ _ _ _ _ _
set_option maxRecDepth 100000 in
set_option maxHeartbeats 3200000 in
theorem dirs_Walk.calls (k : Nat) (A0 : Option Addr) (c0 : Nat) (l0 : List VIT) (A1 : Option Addr) (c1 : Nat) (l1 : List ByteArray) (a2 : Bool) (r1 r2 : Int) (w : World) (hr0 : Kd.C k56 w A0 l0.length l0) (hc0 : l0.length ≤ c0) (hr1 : Kd.C Kd.string w A1 l1.length l1) (hc1 : l1.length ≤ c1) (h : dirs_Walk.f k l0 l1 a2 = some (r1, r2)) :
  Calls Tryz.prog 4 #[.slice A0 l0.length c0, .slice A1 l1.length c1, .bool a2] w fun e w' => e = .returned (.tuple #[.int .u32 r1, .int .i64 r2]) ∧ Below w.heap.size w w' := by
 unfold dirs_Walk.f at h
 have HR1 := ak_ hr1
 have HC1 := ak_ hc1
 clear hr1 hc1
 have hnot : ∀ (x : Bool) (w : World), (Op.unary .not (.bool x)).run Tryz.prog w = .ok (.bool (!x)) w := fun _ _ => rfl
 obtain ⟨o, ho, h⟩ := Option.bind_eq_some_iff.mp h
 have HR := ak_ hr0
 have HC := ak_ hc0
 have HO := ak_ ho
 clear hr0 hc0 ho
 cases o with
 | none =>
  have h := Option.some.inj h
  simp only [Prod.mk.injEq] at h
  obtain ⟨rfl, rfl⟩ := h
  go_enter Tryz.func4, Tryz.ntmps4
  go_wp2_with (first
   | (go_at_call 18; refine (vopen_calls A0 c0 l0 _).mono ?_; rintro e w1 ⟨g, rfl, hg, hb1, hB1⟩; have GG := ak_ hg; have O1 := ak_ hb1; have B1 := ak_ hB1; have Z1 := ak_ (show w.heap.size ≤ w1.heap.size from B1.out.size); clear hg hb1 hB1)
   | (go_at_call 19; refine (right_calls k g A0 c0 l0 0 none _ O1.out (Kd.C_foot_came (Kd.heap_iso _ (Kd.heap_pair Kd.heap_string Kd.heap_string)) HR.out B1.out GG.out) HC.out HO.out).mono ?_; rintro e w2 ⟨rfl, hf2, hv2⟩; have B2 := ak_ (B1.out.trans (hf2.2 w.heap.size GG.out Z1.out)); clear hf2 hv2))
  go_ret2
  exact ⟨rfl, B2.out⟩
 | some s =>
  have HH := ak_ h
  clear h
  go_enter Tryz.func4, Tryz.ntmps4
  go_wp2_with (first
   | (go_at_call 18; refine (vopen_calls A0 c0 l0 _).mono ?_; rintro e w1 ⟨g, rfl, hg, hb1, hB1⟩; have GG := ak_ hg; have O1 := ak_ hb1; have B1 := ak_ hB1; have Z1 := ak_ (show w.heap.size ≤ w1.heap.size from B1.out.size); clear hg hb1 hB1)
   | (go_at_call 19; refine (right_calls k g A0 c0 l0 0 (some s) _ O1.out (Kd.C_foot_came (Kd.heap_iso _ (Kd.heap_pair Kd.heap_string Kd.heap_string)) HR.out B1.out GG.out) HC.out HO.out).mono ?_; rintro e w2 ⟨rfl, hf2, hv2⟩; have B2 := ak_ (B1.out.trans (hf2.2 w.heap.size GG.out Z1.out)); have V2 := ak_ (hv2 s rfl); have R2 := ak_ (Kd.C_below HR.out B2.out); clear hf2 hv2)
   | (go_at_call 20; refine (walk_calls k g w1.heap.size A0 c0 l0 0 s A1 c1 l1 a2 r1 r2 _ V2.out R2.out HC.out (Kd.C_below HR1.out B2.out) HC1.out HH.out).mono ?_; rintro e w3 ⟨rfl, hb3⟩; have B3 := ak_ (below_step B2.out hb3); clear hb3))
  go_ret2
  exact ⟨rfl, B3.out⟩
def dirs_Get.f (k : Nat) (l0 : List VIT) (ino : Int) : Option (Int × Int × Int × Int × ByteArray × Int) := if 0 ≤ ino ∧ ino < 4294967296 then ((lookF k l0).bind fun o => match o with | none => some (0, 0, 0, 0, ⟨#[]⟩, 9) | some s => match s.ino ino with | none => some (0, 0, 0, 0, ⟨#[]⟩, 5) | some n => some (n.kd, n.md, n.ln, n.sz, n.tg, 0)) else none
theorem dirs_Get.mono : ∀ a0 a1 k, LeO (dirs_Get.f k a0 a1) (dirs_Get.f (k + 1) a0 a1) := fun a0 a1 k => by
 unfold dirs_Get.f
 exact LeO.ite (LeO.bind (lookF.mono _ _) (fun _ => LeO.refl _)) (LeO.none _)
set_option maxRecDepth 100000 in
set_option maxHeartbeats 3200000 in
theorem dirs_Get.calls (k : Nat) (A0 : Option Addr) (c0 : Nat) (l0 : List VIT) (a1 : Int) (r1 r2 r3 r4 : Int) (r5 : ByteArray) (r6 : Int) (w : World) (hr0 : Kd.C k56 w A0 l0.length l0) (hc0 : l0.length ≤ c0) (h : dirs_Get.f k l0 a1 = some (r1, r2, r3, r4, r5, r6)) :
  Calls Tryz.prog 6 #[.slice A0 l0.length c0, .int .u32 a1] w fun e w' => e = .returned (.tuple #[.agg #[.int .u8 r1, .int .u16 r2, .int .u32 r3, .int .u32 r4, .string r5], .int .i64 r6]) ∧ Below w.heap.size w w' := by
 unfold dirs_Get.f at h
 split at h
 case isFalse => cases h
 case isTrue ha =>
 have HA := ak_ ha
 clear ha
 have hnot : ∀ (x : Bool) (w : World), (Op.unary .not (.bool x)).run Tryz.prog w = .ok (.bool (!x)) w := fun _ _ => rfl
 obtain ⟨o, ho, h⟩ := Option.bind_eq_some_iff.mp h
 have HR := ak_ hr0
 have HC := ak_ hc0
 have HO := ak_ ho
 clear hr0 hc0 ho
 cases o with
 | none =>
  have h := Option.some.inj h
  simp only [Prod.mk.injEq] at h
  obtain ⟨rfl, rfl, rfl, rfl, rfl, rfl⟩ := h
  go_enter Tryz.func6, Tryz.ntmps6
  go_wp2_with (first
   | ((with_reducible refine gate_dst (N := 4) rfl ?_); refine box_event ?hg (N := 4) ?hd (cs := #[.int .u8 0, .int .u16 0, .int .u32 0, .int .u32 0, .string ⟨#[]⟩]) (t := 31) ?hr ?_; (case hd => rfl); (case hg => rfl); (case hr => first | (go_simp; done) | (go_simp; rfl)); intro gr hgr w0 hx hb; have R0 := ak_ hx; have B0 := ak_ hb; have GR := ak_ (show w.heap.size ≤ gr by rw [hgr]; exact Nat.le_refl _); clear hx hb hgr)
   | (go_at_call 18; refine (vopen_calls A0 c0 l0 _).mono ?_; rintro e w1 ⟨g, rfl, hg, hb1, hB1⟩; have GG := ak_ (Nat.le_trans B0.out.size hg); have O1 := ak_ hb1; have B1 := ak_ (below_step B0.out hB1); have R1 := ak_ (blk_below R0.out hB1); have N1 := ak_ (show gr ≠ g by have := blk_lt R0.out; omega); have Z1 := ak_ (show w.heap.size ≤ w1.heap.size from B1.out.size); clear hg hb1 hB1)
   | (go_at_call 19; refine (right_calls k g A0 c0 l0 0 none _ O1.out (Kd.C_foot_came (Kd.heap_iso _ (Kd.heap_pair Kd.heap_string Kd.heap_string)) HR.out B1.out GG.out) HC.out HO.out).mono ?_; rintro e w2 ⟨rfl, hf2, hv2⟩; have B2 := ak_ (B1.out.trans (hf2.2 w.heap.size GG.out Z1.out)); have R2 := ak_ (KeepBut.blk hf2.1 R1.out N1.out (by simp)); have r0 : w2.cell? ⟨gr, 0, none⟩ = some (.int .u8 0) := (blk_cell R2.out 0).trans rfl; have r1 : w2.cell? ⟨gr, 1, none⟩ = some (.int .u16 0) := (blk_cell R2.out 1).trans rfl; have r2 : w2.cell? ⟨gr, 2, none⟩ = some (.int .u32 0) := (blk_cell R2.out 2).trans rfl; have r3 : w2.cell? ⟨gr, 3, none⟩ = some (.int .u32 0) := (blk_cell R2.out 3).trans rfl; have r4 : w2.cell? ⟨gr, 4, none⟩ = some (.string ⟨#[]⟩) := (blk_cell R2.out 4).trans rfl; have f0 : w2.frozen? ⟨gr, 0, none⟩ = false := blk_frozen R2.out 0; have f1 : w2.frozen? ⟨gr, 1, none⟩ = false := blk_frozen R2.out 1; have f2 : w2.frozen? ⟨gr, 2, none⟩ = false := blk_frozen R2.out 2; have f3 : w2.frozen? ⟨gr, 3, none⟩ = false := blk_frozen R2.out 3; have f4 : w2.frozen? ⟨gr, 4, none⟩ = false := blk_frozen R2.out 4; clear hf2 hv2))
  obtain ⟨hR9, hB9⟩ := lay5 (.int .u8 0) (.int .u16 0) (.int .u32 0) (.int .u32 0) (.string ⟨#[]⟩) R2.out B2.out GR.out
  refine bodyPost_ret (results_ct rfl _ _ gr 31 #[.int .u8 0, .int .u16 0, .int .u32 0, .int .u32 0, .string ⟨#[]⟩] (0, 0) _ rfl hR9 Tryz.underlying31 rfl (by kernel_rfl)) rfl ?_
  exact ⟨rfl, hB9⟩
 | some s =>
  cases hq : s.ino a1 with
  | none =>
   simp only [hq] at h
   have h := Option.some.inj h
   simp only [Prod.mk.injEq] at h
   obtain ⟨rfl, rfl, rfl, rfl, rfl, rfl⟩ := h
   obtain ⟨n, hn⟩ : ∃ n, n = (s.ino a1).getD zI := ⟨_, rfl⟩
   have HN := ak_ hn
   obtain ⟨b, hb⟩ : ∃ b, b = (s.ino a1).isSome := ⟨_, rfl⟩
   have HB := ak_ hb
   obtain rfl : b = false := by rw [hb, hq]; rfl
   clear hn hb hq
   go_enter Tryz.func6, Tryz.ntmps6
   go_wp2_with (first
    | ((with_reducible refine gate_dst (N := 4) rfl ?_); refine box_event ?hg (N := 4) ?hd (cs := #[.int .u8 0, .int .u16 0, .int .u32 0, .int .u32 0, .string ⟨#[]⟩]) (t := 31) ?hr ?_; (case hd => rfl); (case hg => rfl); (case hr => first | (go_simp; done) | (go_simp; rfl)); intro gr hgr w0 hx hb; have R0 := ak_ hx; have B0 := ak_ hb; have GR := ak_ (show w.heap.size ≤ gr by rw [hgr]; exact Nat.le_refl _); clear hx hb hgr)
    | (go_at_call 18; refine (vopen_calls A0 c0 l0 _).mono ?_; rintro e w1 ⟨g, rfl, hg, hb1, hB1⟩; have GG := ak_ (Nat.le_trans B0.out.size hg); have O1 := ak_ hb1; have B1 := ak_ (below_step B0.out hB1); have R1 := ak_ (blk_below R0.out hB1); have N1 := ak_ (show gr ≠ g by have := blk_lt R0.out; omega); have Z1 := ak_ (show w.heap.size ≤ w1.heap.size from B1.out.size); clear hg hb1 hB1)
    | (go_at_call 19; refine (right_calls k g A0 c0 l0 0 (some s) _ O1.out (Kd.C_foot_came (Kd.heap_iso _ (Kd.heap_pair Kd.heap_string Kd.heap_string)) HR.out B1.out GG.out) HC.out HO.out).mono ?_; rintro e w2 ⟨rfl, hf2, hv2⟩; have B2 := ak_ (B1.out.trans (hf2.2 w.heap.size GG.out Z1.out)); have R2 := ak_ (KeepBut.blk hf2.1 R1.out N1.out (by simp)); have V2 := ak_ (hv2 s rfl); clear hf2 hv2)
    | (go_at_call 24; refine (inode_calls g w1.heap.size _ 1 0 0 true s a1 n false _ V2.out HA.out HN.out HB.out).mono ?_; rintro e w3 ⟨rfl, hb3⟩; have B3 := ak_ (below_step B2.out hb3); have R3 := ak_ (blk_below R2.out hb3); clear hb3)
    | ((with_reducible refine gate_dst (N := 7) rfl ?_); refine var_event (N := 7) (T := 31) (n := 5) (zc := #[.int .u8 0, .int .u16 0, .int .u32 0, .int .u32 0, .string ⟨#[]⟩]) (cs := #[.int .u8 n.kd, .int .u16 n.md, .int .u32 n.ln, .int .u32 n.sz, .string n.tg]) rfl rfl rfl (.tmp 19) rfl rfl ?hr (by kernel_rfl) rfl rfl rfl ?hx ?hN ?_; (case hx => intro p_; rfl); (case hN => intro p_; rfl); (case hr => first | (go_simp; done) | (go_simp; rfl)); intro gn hgn w4 hx hb; have N4 := ak_ hx; have R4 := ak_ (blk_below R3.out hb); have B4 := ak_ (below_step B3.out hb); have n0 : w4.cell? ⟨gn, 0, none⟩ = some (.int .u8 n.kd) := (blk_cell N4.out 0).trans rfl; have n1 : w4.cell? ⟨gn, 1, none⟩ = some (.int .u16 n.md) := (blk_cell N4.out 1).trans rfl; have n2 : w4.cell? ⟨gn, 2, none⟩ = some (.int .u32 n.ln) := (blk_cell N4.out 2).trans rfl; have n3 : w4.cell? ⟨gn, 3, none⟩ = some (.int .u32 n.sz) := (blk_cell N4.out 3).trans rfl; have n4 : w4.cell? ⟨gn, 4, none⟩ = some (.string n.tg) := (blk_cell N4.out 4).trans rfl; have r0 : w4.cell? ⟨gr, 0, none⟩ = some (.int .u8 0) := (blk_cell R4.out 0).trans rfl; have r1 : w4.cell? ⟨gr, 1, none⟩ = some (.int .u16 0) := (blk_cell R4.out 1).trans rfl; have r2 : w4.cell? ⟨gr, 2, none⟩ = some (.int .u32 0) := (blk_cell R4.out 2).trans rfl; have r3 : w4.cell? ⟨gr, 3, none⟩ = some (.int .u32 0) := (blk_cell R4.out 3).trans rfl; have r4 : w4.cell? ⟨gr, 4, none⟩ = some (.string ⟨#[]⟩) := (blk_cell R4.out 4).trans rfl; have f0 : w4.frozen? ⟨gr, 0, none⟩ = false := blk_frozen R4.out 0; have f1 : w4.frozen? ⟨gr, 1, none⟩ = false := blk_frozen R4.out 1; have f2 : w4.frozen? ⟨gr, 2, none⟩ = false := blk_frozen R4.out 2; have f3 : w4.frozen? ⟨gr, 3, none⟩ = false := blk_frozen R4.out 3; have f4 : w4.frozen? ⟨gr, 4, none⟩ = false := blk_frozen R4.out 4; clear hx hb hgn))
   obtain ⟨hR9, hB9⟩ := lay5 (.int .u8 0) (.int .u16 0) (.int .u32 0) (.int .u32 0) (.string ⟨#[]⟩) R4.out B4.out GR.out
   refine bodyPost_ret (results_ct rfl _ _ gr 31 #[.int .u8 0, .int .u16 0, .int .u32 0, .int .u32 0, .string ⟨#[]⟩] (0, 0) _ rfl hR9 Tryz.underlying31 rfl (by kernel_rfl)) rfl ?_
   exact ⟨rfl, hB9⟩
  | some n =>
   simp only [hq] at h
   have h := Option.some.inj h
   simp only [Prod.mk.injEq] at h
   obtain ⟨rfl, rfl, rfl, rfl, rfl, rfl⟩ := h
   have HN := ak_ (show n = (s.ino a1).getD zI by rw [hq]; rfl)
   have HB := ak_ (show true = (s.ino a1).isSome by rw [hq]; rfl)
   clear hq
   go_enter Tryz.func6, Tryz.ntmps6
   go_wp2_with (first
    | ((with_reducible refine gate_dst (N := 4) rfl ?_); refine box_event ?hg (N := 4) ?hd (cs := #[.int .u8 0, .int .u16 0, .int .u32 0, .int .u32 0, .string ⟨#[]⟩]) (t := 31) ?hr ?_; (case hd => rfl); (case hg => rfl); (case hr => first | (go_simp; done) | (go_simp; rfl)); intro gr hgr w0 hx hb; have R0 := ak_ hx; have B0 := ak_ hb; have GR := ak_ (show w.heap.size ≤ gr by rw [hgr]; exact Nat.le_refl _); clear hx hb hgr)
    | (go_at_call 18; refine (vopen_calls A0 c0 l0 _).mono ?_; rintro e w1 ⟨g, rfl, hg, hb1, hB1⟩; have GG := ak_ (Nat.le_trans B0.out.size hg); have O1 := ak_ hb1; have B1 := ak_ (below_step B0.out hB1); have R1 := ak_ (blk_below R0.out hB1); have N1 := ak_ (show gr ≠ g by have := blk_lt R0.out; omega); have Z1 := ak_ (show w.heap.size ≤ w1.heap.size from B1.out.size); clear hg hb1 hB1)
    | (go_at_call 19; refine (right_calls k g A0 c0 l0 0 (some s) _ O1.out (Kd.C_foot_came (Kd.heap_iso _ (Kd.heap_pair Kd.heap_string Kd.heap_string)) HR.out B1.out GG.out) HC.out HO.out).mono ?_; rintro e w2 ⟨rfl, hf2, hv2⟩; have B2 := ak_ (B1.out.trans (hf2.2 w.heap.size GG.out Z1.out)); have R2 := ak_ (KeepBut.blk hf2.1 R1.out N1.out (by simp)); have V2 := ak_ (hv2 s rfl); clear hf2 hv2)
    | (go_at_call 24; refine (inode_calls g w1.heap.size _ 1 0 0 true s a1 n true _ V2.out HA.out HN.out HB.out).mono ?_; rintro e w3 ⟨rfl, hb3⟩; have B3 := ak_ (below_step B2.out hb3); have R3 := ak_ (blk_below R2.out hb3); clear hb3)
    | ((with_reducible refine gate_dst (N := 7) rfl ?_); refine var_event (N := 7) (T := 31) (n := 5) (zc := #[.int .u8 0, .int .u16 0, .int .u32 0, .int .u32 0, .string ⟨#[]⟩]) (cs := #[.int .u8 n.kd, .int .u16 n.md, .int .u32 n.ln, .int .u32 n.sz, .string n.tg]) rfl rfl rfl (.tmp 19) rfl rfl ?hr (by kernel_rfl) rfl rfl rfl ?hx ?hN ?_; (case hx => intro p_; rfl); (case hN => intro p_; rfl); (case hr => first | (go_simp; done) | (go_simp; rfl)); intro gn hgn w4 hx hb; have N4 := ak_ hx; have R4 := ak_ (blk_below R3.out hb); have B4 := ak_ (below_step B3.out hb); have n0 : w4.cell? ⟨gn, 0, none⟩ = some (.int .u8 n.kd) := (blk_cell N4.out 0).trans rfl; have n1 : w4.cell? ⟨gn, 1, none⟩ = some (.int .u16 n.md) := (blk_cell N4.out 1).trans rfl; have n2 : w4.cell? ⟨gn, 2, none⟩ = some (.int .u32 n.ln) := (blk_cell N4.out 2).trans rfl; have n3 : w4.cell? ⟨gn, 3, none⟩ = some (.int .u32 n.sz) := (blk_cell N4.out 3).trans rfl; have n4 : w4.cell? ⟨gn, 4, none⟩ = some (.string n.tg) := (blk_cell N4.out 4).trans rfl; have r0 : w4.cell? ⟨gr, 0, none⟩ = some (.int .u8 0) := (blk_cell R4.out 0).trans rfl; have r1 : w4.cell? ⟨gr, 1, none⟩ = some (.int .u16 0) := (blk_cell R4.out 1).trans rfl; have r2 : w4.cell? ⟨gr, 2, none⟩ = some (.int .u32 0) := (blk_cell R4.out 2).trans rfl; have r3 : w4.cell? ⟨gr, 3, none⟩ = some (.int .u32 0) := (blk_cell R4.out 3).trans rfl; have r4 : w4.cell? ⟨gr, 4, none⟩ = some (.string ⟨#[]⟩) := (blk_cell R4.out 4).trans rfl; have f0 : w4.frozen? ⟨gr, 0, none⟩ = false := blk_frozen R4.out 0; have f1 : w4.frozen? ⟨gr, 1, none⟩ = false := blk_frozen R4.out 1; have f2 : w4.frozen? ⟨gr, 2, none⟩ = false := blk_frozen R4.out 2; have f3 : w4.frozen? ⟨gr, 3, none⟩ = false := blk_frozen R4.out 3; have f4 : w4.frozen? ⟨gr, 4, none⟩ = false := blk_frozen R4.out 4; clear hx hb hgn))
   obtain ⟨hR9, hB9⟩ := lay5 (.int .u8 n.kd) (.int .u16 n.md) (.int .u32 n.ln) (.int .u32 n.sz) (.string n.tg) R4.out B4.out GR.out
   refine bodyPost_ret (results_ct rfl _ _ gr 31 #[.int .u8 n.kd, .int .u16 n.md, .int .u32 n.ln, .int .u32 n.sz, .string n.tg] (0, 0) _ rfl hR9 Tryz.underlying31 rfl (by kernel_rfl)) rfl ?_
   exact ⟨rfl, hB9⟩
def dirs_List.f (k : Nat) (l0 : List VIT) (ino : Int) : Option (List S43 × Int) := if 0 ≤ ino ∧ ino < 4294967296 then ((lookF k l0).bind fun o => match o with | none => some ([], 9) | some s => match s.ino ino with | none => some ([], 5) | some n => if n.kd = 1 then (listL k s ino s.all []).bind fun r => some (r, 0) else some ([], 12)) else none
theorem dirs_List.mono : ∀ a0 a1 k, LeO (dirs_List.f k a0 a1) (dirs_List.f (k + 1) a0 a1) := fun a0 a1 k => by
 unfold dirs_List.f
 refine LeO.ite (LeO.bind (lookF.mono _ _) (fun o => ?_)) (LeO.none _)
 cases o with
 | none => exact LeO.refl _
 | some s =>
  cases h : s.ino a1 with
  | none => simp only [h]; exact LeO.refl _
  | some n => simp only [h]; exact LeO.ite (LeO.bind (listL.mono _ _ _ _ _) (fun _ => LeO.refl _)) (LeO.refl _)
set_option maxRecDepth 100000 in
set_option maxHeartbeats 3200000 in
theorem dirs_List.calls (k : Nat) (A0 : Option Addr) (c0 : Nat) (l0 : List VIT) (a1 : Int) (r1 : List S43) (r2 : Int) (w : World) (hr0 : Kd.C k56 w A0 l0.length l0) (hc0 : l0.length ≤ c0) (h : dirs_List.f k l0 a1 = some (r1, r2)) :
  Calls Tryz.prog 8 #[.slice A0 l0.length c0, .int .u32 a1] w fun e w' => ∃ v0_ : Value, e = .returned (.tuple #[v0_, .int .i64 r2]) ∧ k43.R 43 w' w.heap.size (fun _ => True) v0_ r1 ∧ Below w.heap.size w w' := by
 unfold dirs_List.f at h
 split at h
 case isFalse => cases h
 case isTrue ha =>
 have HA := ak_ ha
 clear ha
 have hnot : ∀ (x : Bool) (w : World), (Op.unary .not (.bool x)).run Tryz.prog w = .ok (.bool (!x)) w := fun _ _ => rfl
 obtain ⟨o, ho, h⟩ := Option.bind_eq_some_iff.mp h
 have HR := ak_ hr0
 have HC := ak_ hc0
 have HO := ak_ ho
 clear hr0 hc0 ho
 cases o with
 | none =>
  have h := Option.some.inj h
  simp only [Prod.mk.injEq] at h
  obtain ⟨rfl, rfl⟩ := h
  go_enter Tryz.func8, Tryz.ntmps8
  go_wp2_with (first
   | (go_at_call 18; refine (vopen_calls A0 c0 l0 _).mono ?_; rintro e w1 ⟨g, rfl, hg, hb1, hB1⟩; have GG := ak_ hg; have O1 := ak_ hb1; have B1 := ak_ hB1; have Z1 := ak_ (show w.heap.size ≤ w1.heap.size from B1.out.size); clear hg hb1 hB1)
   | (go_at_call 19; refine (right_calls k g A0 c0 l0 0 none _ O1.out (Kd.C_foot_came (Kd.heap_iso _ (Kd.heap_pair Kd.heap_string Kd.heap_string)) HR.out B1.out GG.out) HC.out HO.out).mono ?_; rintro e w2 ⟨rfl, hf2, hv2⟩; have B2 := ak_ (B1.out.trans (hf2.2 w.heap.size GG.out Z1.out)); clear hf2 hv2))
  go_ret2
  exact ⟨_, rfl, Kd.R_nil _ _ _ _ _, B2.out⟩
 | some s =>
  cases hq : s.ino a1 with
  | none =>
   simp only [hq] at h
   have h := Option.some.inj h
   simp only [Prod.mk.injEq] at h
   obtain ⟨rfl, rfl⟩ := h
   obtain ⟨n, hn⟩ : ∃ n, n = (s.ino a1).getD zI := ⟨_, rfl⟩
   have HN := ak_ hn
   have HB := ak_ (show false = (s.ino a1).isSome by rw [hq]; rfl)
   clear hn hq
   go_enter Tryz.func8, Tryz.ntmps8
   go_wp2_with (first
    | (go_at_call 18; refine (vopen_calls A0 c0 l0 _).mono ?_; rintro e w1 ⟨g, rfl, hg, hb1, hB1⟩; have GG := ak_ hg; have O1 := ak_ hb1; have B1 := ak_ hB1; have Z1 := ak_ (show w.heap.size ≤ w1.heap.size from B1.out.size); clear hg hb1 hB1)
    | (go_at_call 19; refine (right_calls k g A0 c0 l0 0 (some s) _ O1.out (Kd.C_foot_came (Kd.heap_iso _ (Kd.heap_pair Kd.heap_string Kd.heap_string)) HR.out B1.out GG.out) HC.out HO.out).mono ?_; rintro e w2 ⟨rfl, hf2, hv2⟩; have B2 := ak_ (B1.out.trans (hf2.2 w.heap.size GG.out Z1.out)); have V2 := ak_ (hv2 s rfl); have R2 := ak_ (Kd.C_below HR.out B2.out); clear hf2 hv2)
    | (go_at_call 24; refine (inode_calls g w1.heap.size _ 1 0 0 true s a1 n false _ V2.out HA.out HN.out HB.out).mono ?_; rintro e w3 ⟨rfl, hb3⟩; have B3 := ak_ (below_step B2.out hb3); have V3 := ak_ (V2.out.below hb3); clear hb3)
    | ((with_reducible refine gate_dst (N := 7) rfl ?_); refine var_event (N := 7) (T := 31) (n := 5) (zc := #[.int .u8 0, .int .u16 0, .int .u32 0, .int .u32 0, .string ⟨#[]⟩]) (cs := #[.int .u8 n.kd, .int .u16 n.md, .int .u32 n.ln, .int .u32 n.sz, .string n.tg]) rfl rfl rfl (.tmp 18) rfl rfl ?hr (by kernel_rfl) rfl rfl rfl ?hx ?hN ?_; (case hx => intro p_; rfl); (case hN => intro p_; rfl); (case hr => first | (go_simp; done) | (go_simp; rfl)); intro gn hgn w4 hx hb; have N4 := ak_ hx; have V4 := ak_ (V3.out.below hb); have B4 := ak_ (below_step B3.out hb); have n0 : w4.cell? ⟨gn, 0, none⟩ = some (.int .u8 n.kd) := (blk_cell N4.out 0).trans rfl; clear hx hb hgn))
   go_ret2
   exact ⟨_, rfl, Kd.R_nil _ _ _ _ _, B4.out⟩
  | some n =>
   simp only [hq] at h
   have HN := ak_ (show n = (s.ino a1).getD zI by rw [hq]; rfl)
   have HB := ak_ (show true = (s.ino a1).isSome by rw [hq]; rfl)
   clear hq
   by_cases hk : n.kd = 1
   ·rw [if_pos hk] at h
    have e0 : (n.kd != 1) = false := bne_eq_false_iff_eq.2 hk
    obtain ⟨rl, hl, h⟩ := Option.bind_eq_some_iff.mp h
    have HL := ak_ hl
    have h := Option.some.inj h
    simp only [Prod.mk.injEq] at h
    obtain ⟨rfl, rfl⟩ := h
    clear hl hk
    go_enter Tryz.func8, Tryz.ntmps8
    go_wp2_with (first
     | (go_at_call 18; refine (vopen_calls A0 c0 l0 _).mono ?_; rintro e w1 ⟨g, rfl, hg, hb1, hB1⟩; have GG := ak_ hg; have O1 := ak_ hb1; have B1 := ak_ hB1; have Z1 := ak_ (show w.heap.size ≤ w1.heap.size from B1.out.size); clear hg hb1 hB1)
     | (go_at_call 19; refine (right_calls k g A0 c0 l0 0 (some s) _ O1.out (Kd.C_foot_came (Kd.heap_iso _ (Kd.heap_pair Kd.heap_string Kd.heap_string)) HR.out B1.out GG.out) HC.out HO.out).mono ?_; rintro e w2 ⟨rfl, hf2, hv2⟩; have B2 := ak_ (B1.out.trans (hf2.2 w.heap.size GG.out Z1.out)); have V2 := ak_ (hv2 s rfl); have R2 := ak_ (Kd.C_below HR.out B2.out); clear hf2 hv2)
     | (go_at_call 24; refine (inode_calls g w1.heap.size _ 1 0 0 true s a1 n true _ V2.out HA.out HN.out HB.out).mono ?_; rintro e w3 ⟨rfl, hb3⟩; have B3 := ak_ (below_step B2.out hb3); have V3 := ak_ (V2.out.below hb3); clear hb3)
     | ((with_reducible refine gate_dst (N := 7) rfl ?_); refine var_event (N := 7) (T := 31) (n := 5) (zc := #[.int .u8 0, .int .u16 0, .int .u32 0, .int .u32 0, .string ⟨#[]⟩]) (cs := #[.int .u8 n.kd, .int .u16 n.md, .int .u32 n.ln, .int .u32 n.sz, .string n.tg]) rfl rfl rfl (.tmp 18) rfl rfl ?hr (by kernel_rfl) rfl rfl rfl ?hx ?hN ?_; (case hx => intro p_; rfl); (case hN => intro p_; rfl); (case hr => first | (go_simp; done) | (go_simp; rfl)); intro gn hgn w4 hx hb; have N4 := ak_ hx; have V4 := ak_ (V3.out.below hb); have B4 := ak_ (below_step B3.out hb); have n0 : w4.cell? ⟨gn, 0, none⟩ = some (.int .u8 n.kd) := (blk_cell N4.out 0).trans rfl; clear hx hb hgn)
     | (go_at_call 25; refine (list_calls k g w1.heap.size _ 1 0 0 true s a1 rl _ V4.out HL.out).mono ?_; rintro e w5 ⟨v5, rfl, ho5, hb5⟩; have R5 := ak_ (Kd.R_lower ho5 B4.out.size); have B5 := ak_ (below_step B4.out hb5); clear ho5 hb5 n0))
    go_ret2
    exact ⟨_, rfl, R5.out, B5.out⟩
   ·rw [if_neg hk] at h
    have e0 : (n.kd != 1) = true := bne_iff_ne.2 hk
    have h := Option.some.inj h
    simp only [Prod.mk.injEq] at h
    obtain ⟨rfl, rfl⟩ := h
    clear hk
    go_enter Tryz.func8, Tryz.ntmps8
    go_wp2_with (first
     | (go_at_call 18; refine (vopen_calls A0 c0 l0 _).mono ?_; rintro e w1 ⟨g, rfl, hg, hb1, hB1⟩; have GG := ak_ hg; have O1 := ak_ hb1; have B1 := ak_ hB1; have Z1 := ak_ (show w.heap.size ≤ w1.heap.size from B1.out.size); clear hg hb1 hB1)
     | (go_at_call 19; refine (right_calls k g A0 c0 l0 0 (some s) _ O1.out (Kd.C_foot_came (Kd.heap_iso _ (Kd.heap_pair Kd.heap_string Kd.heap_string)) HR.out B1.out GG.out) HC.out HO.out).mono ?_; rintro e w2 ⟨rfl, hf2, hv2⟩; have B2 := ak_ (B1.out.trans (hf2.2 w.heap.size GG.out Z1.out)); have V2 := ak_ (hv2 s rfl); have R2 := ak_ (Kd.C_below HR.out B2.out); clear hf2 hv2)
     | (go_at_call 24; refine (inode_calls g w1.heap.size _ 1 0 0 true s a1 n true _ V2.out HA.out HN.out HB.out).mono ?_; rintro e w3 ⟨rfl, hb3⟩; have B3 := ak_ (below_step B2.out hb3); have V3 := ak_ (V2.out.below hb3); clear hb3)
     | ((with_reducible refine gate_dst (N := 7) rfl ?_); refine var_event (N := 7) (T := 31) (n := 5) (zc := #[.int .u8 0, .int .u16 0, .int .u32 0, .int .u32 0, .string ⟨#[]⟩]) (cs := #[.int .u8 n.kd, .int .u16 n.md, .int .u32 n.ln, .int .u32 n.sz, .string n.tg]) rfl rfl rfl (.tmp 18) rfl rfl ?hr (by kernel_rfl) rfl rfl rfl ?hx ?hN ?_; (case hx => intro p_; rfl); (case hN => intro p_; rfl); (case hr => first | (go_simp; done) | (go_simp; rfl)); intro gn hgn w4 hx hb; have N4 := ak_ hx; have V4 := ak_ (V3.out.below hb); have B4 := ak_ (below_step B3.out hb); have n0 : w4.cell? ⟨gn, 0, none⟩ = some (.int .u8 n.kd) := (blk_cell N4.out 0).trans rfl; clear hx hb hgn))
    go_ret2
    exact ⟨_, rfl, Kd.R_nil _ _ _ _ _, B4.out⟩
end Go.Proofs.YtpnmajblhgnkoaaGreat.Z
end

section
namespace Go.Proofs.YtpnmajblhgnkoaaGreat.PM
def ba (l : List UInt8) : ByteArray := ⟨l.toArray⟩
theorem ba_data (l : List UInt8) : (ba l).data.toList = l := by simp [ba]
theorem ba_toList (l : List UInt8) : (ba l).toList = l := by rw [ByteArray.toList_eq]; exact ba_data l
theorem ba_size (l : List UInt8) : (ba l).size = l.length := by simp [ba, ByteArray.size]
theorem data_ba (s : ByteArray) : ba s.data.toList = s := by cases s; simp [ba]
theorem ba_app (a b : List UInt8) : ba a ++ ba b = ba (a ++ b) := by
  have h : (ba a ++ ba b).data.toList = (ba (a ++ b)).data.toList := by rw [Go.Joins.data_append, ba_data, ba_data, ba_data]
  rw [← data_ba (ba a ++ ba b), h, data_ba]
def nameL (l : List UInt8) : Bool := decide (l ≠ [] ∧ l.length ≤ 24 ∧ 47 ∉ l ∧ 0 ∉ l ∧ l ≠ [46] ∧ l ≠ [46, 46])
theorem nameL_iff {l : List UInt8} : nameL l = true ↔ (l ≠ [] ∧ l.length ≤ 24 ∧ 47 ∉ l ∧ 0 ∉ l ∧ l ≠ [46] ∧ l ≠ [46, 46]) := by simp [nameL]
end Go.Proofs.YtpnmajblhgnkoaaGreat.PM
end

section
namespace Go.Proofs.YtpnmajblhgnkoaaGreat.PM
def splitL : List UInt8 → List (List UInt8)
  | [] => [[]]
  | c :: cs => if c = 47 then [] :: splitL cs else match splitL cs with
    | h :: t => (c :: h) :: t
    | [] => [[c]]
theorem splitL_ne (l : List UInt8) : splitL l ≠ [] := by
  cases l with
  | nil => simp [splitL]
  | cons c cs =>
    unfold splitL
    split
    · simp
    · split <;> simp
def pre (a : List UInt8) : List (List UInt8) → List (List UInt8)
  | h :: t => (a ++ h) :: t
  | [] => [a]
theorem splitL_cons_ne {c : UInt8} {cs : List UInt8} (h : c ≠ 47) : splitL (c :: cs) = pre [c] (splitL cs) := by
  conv => lhs; unfold splitL
  rw [if_neg h]
  cases splitL cs <;> rfl
theorem splitL_cons_eq (cs : List UInt8) : splitL (47 :: cs) = [] :: splitL cs := by
  conv => lhs; unfold splitL
  rw [if_pos rfl]
theorem pre_pre (a b : List UInt8) (l : List (List UInt8)) : pre a (pre b l) = pre (a ++ b) l := by cases l <;> simp [pre]
theorem pre_nil {l : List (List UInt8)} (h : l ≠ []) : pre [] l = l := by cases l <;> simp_all [pre]
theorem splitL_pre (a l : List UInt8) (h : 47 ∉ a) : splitL (a ++ l) = pre a (splitL l) := by
  induction a with
  | nil => rw [List.nil_append, pre_nil (splitL_ne l)]
  | cons c a ih =>
    rw [List.cons_append, splitL_cons_ne (fun e => h (by simp [e])), ih (fun e => h (by simp [e])), pre_pre]; rfl
theorem splitL_none (l : List UInt8) (h : 47 ∉ l) : splitL l = [l] := by
  have := splitL_pre l [] h
  rw [List.append_nil] at this
  rw [this]; simp [splitL, pre]
theorem splitL_at (a l : List UInt8) (h : 47 ∉ a) : splitL (a ++ 47 :: l) = a :: splitL l := by
  rw [splitL_pre a _ h, splitL_cons_eq]; simp [pre]
def joinL (ns : List (List UInt8)) : List UInt8 := ns.flatMap (fun n => 47 :: n)
theorem joinL_splitL (l : List UInt8) : joinL (splitL l) = 47 :: l := by
  induction l with
  | nil => simp [joinL, splitL]
  | cons c cs ih =>
    by_cases hc : c = 47
    · subst hc; rw [splitL_cons_eq]; simp only [joinL, List.flatMap_cons] at *; rw [ih]; rfl
    · rw [splitL_cons_ne hc]
      have hn := splitL_ne cs
      cases hs : splitL cs with
      | nil => exact absurd hs hn
      | cons a t =>
        rw [hs] at ih
        simp only [joinL, List.flatMap_cons, pre] at *
        simp only [List.cons_append, List.cons.injEq, true_and] at ih
        simp [ih]
theorem joinL_length (ns : List (List UInt8)) : (joinL ns).length = ns.length + (ns.map List.length).sum := by
  induction ns with
  | nil => rfl
  | cons n ns ih => simp only [joinL, List.flatMap_cons, List.length_append, List.length_cons, List.map_cons, List.sum_cons] at *; omega
def pathSpec (p : List UInt8) : List (List UInt8) × Int :=
  if 256 < p.length then ([], 2) else match p with
    | [] => ([], 10)
    | c :: rest => if c = 47 then (if rest = [] then ([], 0) else if (splitL rest).all nameL then (splitL rest, 0) else ([], 10)) else ([], 10)
theorem path_cases (p : List UInt8) : (pathSpec p).2 ≠ 0 ∧ (pathSpec p).1 = [] ∨ (p = [47] ∧ pathSpec p = ([], 0)) ∨ ∃ rest, p = 47 :: rest ∧ rest ≠ [] ∧ p.length ≤ 256 ∧ (splitL rest).all nameL = true ∧ pathSpec p = (splitL rest, 0) := by
  unfold pathSpec
  split
  · left; simp
  · rename_i hlen
    cases p with
    | nil => left; simp
    | cons c rest =>
      simp only
      split
      · rename_i hc; subst hc
        split
        · rename_i hr; subst hr; right; left; simp
        · rename_i hr
          split
          · rename_i ha; right; right; exact ⟨rest, rfl, hr, by omega, ha, rfl⟩
          · left; simp
      · left; simp
end Go.Proofs.YtpnmajblhgnkoaaGreat.PM
end

section
namespace Go.Proofs.YtpnmajblhgnkoaaGreat.Z
theorem Ev.val {α : Type} {g : Nat → Option α} {a b : α} (h : Ev g a) (e : a = b) : Ev g b := e ▸ h
theorem Ev.const {α : Type} {x : Option α} {r : α} (h : x = some r) : Ev (fun _ => x) r := ⟨0, fun _ _ => h⟩
theorem Ev.ifp {α : Type} {c : Prop} [Decidable c] {f g : Nat → Option α} {r : α} (hc : c) (h : Ev f r) : Ev (fun k => if c then f k else g k) r := Ev.congr (fun k => if_pos hc) h
theorem Ev.ifn {α : Type} {c : Prop} [Decidable c] {f g : Nat → Option α} {r : α} (hc : ¬ c) (h : Ev g r) : Ev (fun k => if c then f k else g k) r := Ev.congr (fun k => if_neg hc) h
theorem Ev.ite {α : Type} {c : Prop} [Decidable c] {f g : Nat → Option α} {r : α} (h : c → Ev f r) (h2 : ¬ c → Ev g r) : Ev (fun k => if c then f k else g k) r := by
  by_cases hc : c
  · exact Ev.ifp hc (h hc)
  · exact Ev.ifn hc (h2 hc)
theorem Ev.bindc {α β : Type} {x : Option α} {f : Nat → α → Option β} {a : α} {r : β} (h : x = some a) (k : Ev (fun n => f n a) r) : Ev (fun n => x.bind (f n)) r := Ev.bind (Ev.const h) k
theorem w64 {i : Int} (h0 : -9223372036854775808 ≤ i) (h1 : i ≤ 9223372036854775807) : wrap64 i = i := by unfold wrap64; omega
end Go.Proofs.YtpnmajblhgnkoaaGreat.Z
end

section
namespace Go.Proofs.YtpnmajblhgnkoaaGreat.Z
attribute [local go_sem] max2_int min2_int max_two min_two max_three min_three max_four min_four   -- for this text's walks alone
def cambiumref11_Name.l0 : Nat → ByteArray → Int → Option (Bool)
 | 0, _, _ => none
 | k + 1, x0, x3 => if x3 < (x0.size : Int) then (if 0 ≤ x3 then (if (bt x0 x3) = 47 then (some false) else (if (bt x0 x3) = 0 then (some false) else (cambiumref11_Name.l0 k x0 (wrap64 (x3 + 1))))) else (none)) else (if x0.toList = ([] : List UInt8) then (some false) else (if (x0.size : Int) ≤ 24 then (if x0.toList = ([46] : List UInt8) then (some false) else (some (x0.toList != ([46, 46] : List UInt8)))) else (some false)))
def cambiumref11_Name.f (k : Nat) (a0 : ByteArray) : Option (Bool) := cambiumref11_Name.l0 k a0 0
theorem cambiumref11_Name.mono_l : ∀ k, (∀ y0 y1, LeO (cambiumref11_Name.l0 k y0 y1) (cambiumref11_Name.l0 (k + 1) y0 y1))
 | 0 => by intros; intro r h; simp [cambiumref11_Name.l0] at h
 | k + 1 => by
  have ih0 := cambiumref11_Name.mono_l k
  intros
  unfold cambiumref11_Name.l0
  repeat' (first | (with_reducible first | exact ih0 _ _ | exact LeO.refl _ | exact LeO.none _ | refine LeO.ite ?_ ?_ | refine LeO.bind ?_ (fun _ => ?_)))
theorem cambiumref11_Name.mono : ∀ a0 k, LeO (cambiumref11_Name.f k a0) (cambiumref11_Name.f (k + 1) a0) := by
 intro a0 k
 have ih0 := cambiumref11_Name.mono_l k
 unfold cambiumref11_Name.f
 repeat' (first | (with_reducible first | exact ih0 _ _ | exact LeO.refl _ | exact LeO.none _ | refine LeO.ite ?_ ?_ | refine LeO.bind ?_ (fun _ => ?_)))
set_option maxHeartbeats 64000000 in
set_option maxRecDepth 100000 in
theorem cambiumref11_Name.calls (k : Nat) (a0 : ByteArray) (r : Bool) (w : World) (h : cambiumref11_Name.f k a0 = some r) :
  Calls Tryz.prog 42 #[.string a0] w fun e w' => e = .returned (.bool r) ∧ Drawn0 w w' := by
 have H : (cambiumref11_Name.l0 k a0 0) = some r := h
 clear h
 have H' := ak_ H
 clear H
 go_enter Tryz.func42, Tryz.ntmps42
 go_wp2
 go_loopg [3] k (fun kq v3 w' => ∃ (x3_1 : Int), v3 = .int .i64 x3_1 ∧ Aside0 (cambiumref11_Name.l0 kq a0 x3_1 = some r) ∧ Aside0 (kq ≤ k) ∧ Drawn0 w w')
 case atStart => exact ⟨(0), (by first | rfl | (simp; done) | (simp [*]; done)), H', ⟨Nat.le_refl _⟩, by repeat (first | exact Drawn0.refl _ | apply Drawn0.step)⟩
 case round =>
  clear H'
  obtain ⟨x3_1, rfl, HA, HK1, ⟨m1, rfl⟩⟩ := hrel
  cases gk with
  | zero => exact absurd HA.out (by simp [cambiumref11_Name.l0])
  | succ k1 =>
   have H := HA.out
   clear HA
   simp only [cambiumref11_Name.l0] at H
   refine Or.elim (Classical.em (x3_1 < (a0.size : Int))) (fun c2 => ?p1_) (fun c2 => ?n1_)
   case' p1_ =>
    rw [if_pos c2] at H
    have c2b0 : decide (x3_1 < (a0.size : Int)) = true := decide_eq_true c2
    clear c2
    refine Or.elim (Classical.em (0 ≤ x3_1)) (fun c3 => ?p2_) (fun c3 => ?n2_)
    case' p2_ =>
     rw [if_pos c3] at H
     have c3b0 : decide (0 ≤ x3_1) = true := decide_eq_true c3
     clear c3
     refine Or.elim (Classical.em ((bt a0 x3_1) = 47)) (fun c5 => ?p3_) (fun c5 => ?n3_)
     case' p3_ =>
      rw [if_pos c5] at H
      have c5b0 : ((bt a0 x3_1) == 47) = true := beq_iff_eq.mpr c5
      have c5b1 : ((bt a0 x3_1) != 47) = false := bne_eq_false_iff_eq.mpr c5
      clear c5
      obtain rfl := Option.some.inj H
      have p4 : 0 ≤ (x3_1 : Int) := of_decide_eq_true (by first | (with_reducible assumption) | assumption)
      have q4 : x3_1 < (a0.size : Int) := of_decide_eq_true (by first | (with_reducible assumption) | assumption)
      have hx4 := bt_at a0 x3_1
      replace p4 := eq_true p4
      replace q4 := eq_true q4
      refine ?z1_
     case' n3_ =>
      rw [if_neg c5] at H
      have c5b0 : ((bt a0 x3_1) == 47) = false := beq_eq_false_iff_ne.mpr c5
      have c5b1 : ((bt a0 x3_1) != 47) = true := bne_iff_ne.mpr c5
      refine Or.elim (Classical.em ((bt a0 x3_1) = 0)) (fun c7 => ?p4_) (fun c7 => ?n4_)
      case' p4_ =>
       rw [if_pos c7] at H
       have c7b0 : ((bt a0 x3_1) == 0) = true := beq_iff_eq.mpr c7
       have c7b1 : ((bt a0 x3_1) != 0) = false := bne_eq_false_iff_eq.mpr c7
       clear c7
       obtain rfl := Option.some.inj H
       have p4 : 0 ≤ (x3_1 : Int) := of_decide_eq_true (by first | (with_reducible assumption) | assumption)
       have q4 : x3_1 < (a0.size : Int) := of_decide_eq_true (by first | (with_reducible assumption) | assumption)
       have hx4 := bt_at a0 x3_1
       replace p4 := eq_true p4
       replace q4 := eq_true q4
       have p6 : 0 ≤ (x3_1 : Int) := of_decide_eq_true (by first | (with_reducible assumption) | assumption)
       have q6 : x3_1 < (a0.size : Int) := of_decide_eq_true (by first | (with_reducible assumption) | assumption)
       have hx6 := bt_at a0 x3_1
       replace p6 := eq_true p6
       replace q6 := eq_true q6
       refine ?z2_
      case n4_ =>
       rw [if_neg c7] at H
       have c7b0 : ((bt a0 x3_1) == 0) = false := beq_eq_false_iff_ne.mpr c7
       have c7b1 : ((bt a0 x3_1) != 0) = true := bne_iff_ne.mpr c7
       have H' := ak_ H
       clear H
       have p4 : 0 ≤ (x3_1 : Int) := of_decide_eq_true (by first | (with_reducible assumption) | assumption)
       have q4 : x3_1 < (a0.size : Int) := of_decide_eq_true (by first | (with_reducible assumption) | assumption)
       have hx4 := bt_at a0 x3_1
       replace p4 := eq_true p4
       replace q4 := eq_true q4
       have p6 : 0 ≤ (x3_1 : Int) := of_decide_eq_true (by first | (with_reducible assumption) | assumption)
       have q6 : x3_1 < (a0.size : Int) := of_decide_eq_true (by first | (with_reducible assumption) | assumption)
       have hx6 := bt_at a0 x3_1
       replace p6 := eq_true p6
       replace q6 := eq_true q6
       go_wp2
       go_roundg k1
       case measure => have := HK1.out; omega
       case rel => exact ⟨(wrap64 (x3_1 + 1)), (by first | rfl | (simp; done) | (simp [*]; done)), H', ⟨by have := HK1.out; omega⟩, by repeat (first | exact Drawn0.refl _ | apply Drawn0.step)⟩
    case n2_ =>
     rw [if_neg c3] at H
     exact absurd H (by simp)
   case' n1_ =>
    rw [if_neg c2] at H
    have c2b0 : decide (x3_1 < (a0.size : Int)) = false := decide_eq_false c2
    clear c2
    refine Or.elim (Classical.em (a0.toList = ([] : List UInt8))) (fun c8 => ?p5_) (fun c8 => ?n5_)
    case' p5_ =>
     rw [if_pos c8] at H
     have c8b0 : (a0.toList == ([] : List UInt8)) = true := beq_iff_eq.mpr c8
     have c8b1 : (a0.toList != ([] : List UInt8)) = false := bne_eq_false_iff_eq.mpr c8
     clear c8
     obtain rfl := Option.some.inj H
     refine ?z3_
    case' n5_ =>
     rw [if_neg c8] at H
     have c8b0 : (a0.toList == ([] : List UInt8)) = false := beq_eq_false_iff_ne.mpr c8
     have c8b1 : (a0.toList != ([] : List UInt8)) = true := bne_iff_ne.mpr c8
     refine Or.elim (Classical.em ((a0.size : Int) ≤ 24)) (fun c9 => ?p6_) (fun c9 => ?n6_)
     case' p6_ =>
      rw [if_pos c9] at H
      have c9b0 : decide ((a0.size : Int) ≤ 24) = true := decide_eq_true c9
      have c9b1 : decide (a0.size ≤ 24) = true := decide_eq_true (by omega)
      clear c9
      refine Or.elim (Classical.em (a0.toList = ([46] : List UInt8))) (fun c10 => ?p7_) (fun c10 => ?n7_)
      case' p7_ =>
       rw [if_pos c10] at H
       have c10b0 : (a0.toList == ([46] : List UInt8)) = true := beq_iff_eq.mpr c10
       have c10b1 : (a0.toList != ([46] : List UInt8)) = false := bne_eq_false_iff_eq.mpr c10
       clear c10
       obtain rfl := Option.some.inj H
       refine ?z4_
      case' n7_ =>
       rw [if_neg c10] at H
       have c10b0 : (a0.toList == ([46] : List UInt8)) = false := beq_eq_false_iff_ne.mpr c10
       have c10b1 : (a0.toList != ([46] : List UInt8)) = true := bne_iff_ne.mpr c10
       obtain rfl := Option.some.inj H
       refine ?z5_
     case' n6_ =>
      rw [if_neg c9] at H
      have c9b0 : decide ((a0.size : Int) ≤ 24) = false := decide_eq_false c9
      have c9b1 : decide (a0.size ≤ 24) = false := decide_eq_false (by omega)
      clear c9
      obtain rfl := Option.some.inj H
      refine ?z6_
   case p3_ | n3_ | p5_ | p7_ | n7_ | n6_ =>
    go_wp2
    go_ret
    exact ⟨by first | rfl | (simp; done) | (simp [*]; done), by repeat (first | exact Drawn0.refl _ | apply Drawn0.step)⟩
end Go.Proofs.YtpnmajblhgnkoaaGreat.Z
end

section
namespace Go.Proofs.YtpnmajblhgnkoaaGreat.Z
open Go.Proofs.YtpnmajblhgnkoaaGreat.PM
theorem index_mem (l : List UInt8) (c : UInt8) : 0 ≤ Lib.indexByte l c ↔ c ∈ l := by
  induction l with
  | nil => simp [Lib.indexByte]
  | cons b l ih =>
    unfold Lib.indexByte
    by_cases hb : b = c
    · subst hb; simp
    · have hb2 : (b == c) = false := by simpa using hb
      rw [hb2]
      by_cases h1 : Lib.indexByte l c = -1
      · have hn : c ∉ l := fun hm => by have := ih.2 hm; omega
        simp [h1, hn, Ne.symm hb]
      · have := Lib.indexByte_ge l c
        have hm : c ∈ l := ih.1 (by omega)
        have h2 : (Lib.indexByte l c == -1) = false := by simpa using h1
        simp [h2, hm]; omega
theorem bt_get (s : ByteArray) (i : Nat) (h : i < s.data.toList.length) : bt s (i : Int) = ((s.data.toList[i]).toNat : Int) := by
  have hs : i < s.size := by rw [Array.length_toList] at h; exact h
  unfold bt
  rw [dif_pos (by simpa using hs)]
  simp only [Int.toNat_natCast, Array.getElem_toList]
  rfl
theorem byte_eq (x : UInt8) (n : Nat) (hn : n < 256) : ((x.toNat : Int) = n) ↔ x = n.toUInt8 := by
  constructor
  · intro h
    have : x.toNat = n := by omega
    rw [← UInt8.toNat_inj]
    simp [this]; omega
  · intro h; subst h; simp; omega
theorem toList_nil (a : ByteArray) : a.toList = [] ↔ a.data.toList = [] := by rw [ByteArray.toList_eq]
theorem size_len (a : ByteArray) : a.size = a.data.toList.length := by rw [Array.length_toList]; rfl
def tailB (a : ByteArray) : Bool := decide (a.data.toList ≠ [] ∧ a.data.toList.length ≤ 24 ∧ a.data.toList ≠ [46] ∧ a.data.toList ≠ [46, 46])
theorem refName_l0 (a : ByteArray) (hs : a.size ≤ 9223372036854775807) : ∀ d i : Nat, a.data.toList.length = i + d →
    Ev (fun k => cambiumref11_Name.l0 k a (i : Int)) (decide (47 ∉ a.data.toList.drop i ∧ 0 ∉ a.data.toList.drop i) && tailB a)
  | 0, i, hi => by
    refine Ev.step (fun k => by rw [cambiumref11_Name.l0]) ?_
    have hz := size_len a
    refine Ev.ifn (by omega) (Ev.const ?_)
    rw [List.drop_of_length_le (by omega)]
    unfold tailB
    rw [ByteArray.toList_eq]
    by_cases h1 : a.data.toList = []
    · simp [h1]
    · rw [if_neg h1]
      by_cases h2 : (a.size : Int) ≤ 24
      · rw [if_pos h2]
        by_cases h3 : a.data.toList = [46]
        · rw [if_pos h3, h3]; simp
        · rw [if_neg h3]
          have h2' : a.data.toList.length ≤ 24 := by omega
          have hl : decide (¬a.data.toList = [] ∧ a.data.toList.length ≤ 24 ∧ ¬a.data.toList = [46] ∧ ¬a.data.toList = [46, 46]) = (a.data.toList != [46, 46]) := by
            rw [Bool.eq_iff_iff]; simp only [decide_eq_true_eq, bne_iff_ne, ne_eq]
            exact ⟨fun h => h.2.2.2, fun h => ⟨h1, h2', h3, h⟩⟩
          simp only [ne_eq] at hl ⊢
          rw [hl]; simp
      · rw [if_neg h2]; simp; omega
  | d + 1, i, hi => by
    refine Ev.step (fun k => by rw [cambiumref11_Name.l0]) ?_
    have hz := size_len a
    refine Ev.ifp (by omega) (Ev.ifp (by omega) ?_)
    have hlt : i < a.data.toList.length := by omega
    rw [bt_get a i hlt, List.drop_eq_getElem_cons hlt]
    have e47 := byte_eq (a.data.toList[i]) 47 (by decide)
    have e0 := byte_eq (a.data.toList[i]) 0 (by decide)
    by_cases h47 : ((a.data.toList[i].toNat : Int)) = 47
    · refine Ev.ifp h47 (Ev.const ?_)
      have : a.data.toList[i] = 47 := e47.1 h47
      simp [this]
    · refine Ev.ifn h47 ?_
      by_cases h0 : ((a.data.toList[i].toNat : Int)) = 0
      · refine Ev.ifp h0 (Ev.const ?_)
        have : a.data.toList[i] = 0 := e0.1 h0
        simp [this]
      · refine Ev.ifn h0 ?_
        rw [w64 (by omega) (by omega)]
        have ih := refName_l0 a hs d (i + 1) (by omega)
        refine Ev.val ih ?_
        have n1 : a.data.toList[i] ≠ 47 := fun e => h47 (e47.2 e)
        have n2 : a.data.toList[i] ≠ 0 := fun e => h0 (e0.2 e)
        congr 1
        generalize a.data.toList[i] = b at *
        generalize a.data.toList.drop (i + 1) = r at *
        simp only [List.mem_cons, Ne.symm n1, Ne.symm n2, false_or]
theorem refName (a : ByteArray) (hs : a.size ≤ 9223372036854775807) : Ev (fun k => cambiumref11_Name.f k a) (nameL a.data.toList) := by
  refine Ev.val (refName_l0 a hs a.data.toList.length 0 (by omega)) ?_
  unfold tailB nameL
  rw [Bool.eq_iff_iff]
  simp only [List.drop_zero, Bool.and_eq_true, decide_eq_true_eq]
  constructor
  · rintro ⟨⟨a1, a2⟩, a3, a4, a5, a6⟩; exact ⟨a3, a4, a1, a2, a5, a6⟩
  · rintro ⟨a3, a4, a1, a2, a5, a6⟩; exact ⟨⟨a1, a2⟩, a3, a4, a5, a6⟩
end Go.Proofs.YtpnmajblhgnkoaaGreat.Z
end

section
namespace Go.Proofs.YtpnmajblhgnkoaaGreat.Z
open Go.Proofs.YtpnmajblhgnkoaaGreat.PM
theorem contains_f (a : ByteArray) (c : UInt8) : strings_Contains.f a ⟨#[c]⟩ = some (decide (c ∈ a.data.toList)) := by
  unfold strings_Contains.f
  rw [dif_pos (by rfl)]
  have hi := index_mem a.data.toList c
  exact congrArg some (by rw [Bool.eq_iff_iff]; simpa using hi)
theorem name_f (a : ByteArray) : path_Name.f a = some (nameL a.data.toList) := by
  unfold path_Name.f nameL
  rw [ByteArray.toList_eq, contains_f, contains_f]
  have hz := size_len a
  by_cases h1 : a.data.toList = []
  · simp [h1]
  · rw [if_neg h1]
    by_cases h2 : (a.size : Int) ≤ 24
    · rw [if_pos h2]
      have h2' : a.data.toList.length ≤ 24 := by omega
      by_cases h3 : 47 ∈ a.data.toList <;> by_cases h4 : 0 ∈ a.data.toList <;> simp [h1, h3, h4]
      by_cases h5 : a.data.toList = [46]
      · have h2d : decide (a.size ≤ 24) = true := by simp; omega
        by_cases h6 : a.data.toList = [46, 46]
        · simp [h6]
        · simp [h5, h6, h2d]
      · have h2d : decide (a.size ≤ 24) = true := by simp; omega
        by_cases h6 : a.data.toList = [46, 46]
        · simp [h6]
        · simp [h5, h6, h2d]
    · rw [if_neg h2, show decide (a.data.toList ≠ [] ∧ a.data.toList.length ≤ 24 ∧ 47 ∉ a.data.toList ∧ 0 ∉ a.data.toList ∧ a.data.toList ≠ [46] ∧ a.data.toList ≠ [46, 46]) = false by simp; omega]
end Go.Proofs.YtpnmajblhgnkoaaGreat.Z
end

section
namespace Go.Proofs.YtpnmajblhgnkoaaGreat.Z
attribute [local go_sem] max2_int min2_int max_two min_two max_three min_three max_four min_four   -- for this text's walks alone
mutual
def cambiumref11_Split.j0 : Nat → ByteArray → Bool → Option (List ByteArray × Int)
 | 0, _, _ => none
 | k + 1, x0, x16 => if x16 = true then (some (([] : List ByteArray), 10)) else (if x0.toList = ([47] : List UInt8) then (some (([] : List ByteArray), 0)) else (cambiumref11_Split.l0 k x0 ([] : List ByteArray) (⟨#[]⟩ : ByteArray) 1))
def cambiumref11_Split.l0 : Nat → ByteArray → List ByteArray → ByteArray → Int → Option (List ByteArray × Int)
 | 0, _, _, _, _ => none
 | k + 1, x0, x4, x5, x6 => if x6 ≤ (x0.size : Int) then (if x6 < (x0.size : Int) then (if 0 ≤ x6 then (cambiumref11_Split.j2 k x0 x4 x5 x6 ((bt x0 x6) != 47)) else (none)) else (cambiumref11_Split.j2 k x0 x4 x5 x6 false)) else (some (x4, 0))
def cambiumref11_Split.j2 : Nat → ByteArray → List ByteArray → ByteArray → Int → Bool → Option (List ByteArray × Int)
 | 0, _, _, _, _, _ => none
 | k + 1, x0, x4, x5, x6, x35 => if x35 = true then (if 0 ≤ x6 then (if x6 ≤ (wrap64 (x6 + 1)) then (if (wrap64 (x6 + 1)) ≤ (x0.size : Int) then (if x5.size + (x0.extract (x6 : Int).toNat ((wrap64 (x6 + 1)) : Int).toNat).size ≤ 9223372036854775807 then (cambiumref11_Split.l0 k x0 x4 (x5 ++ (x0.extract (x6 : Int).toNat ((wrap64 (x6 + 1)) : Int).toNat)) (wrap64 (x6 + 1))) else (none)) else (none)) else (none)) else (none)) else ((cambiumref11_Name.f k x5).bind fun t340 => (if t340 = true then (if x4.length < 8796093022208 then (cambiumref11_Split.l0 k x0 (x4 ++ [x5]) (⟨#[]⟩ : ByteArray) (wrap64 (x6 + 1))) else (none)) else (some (([] : List ByteArray), 10))))
end
def cambiumref11_Split.f (k : Nat) (a0 : ByteArray) : Option (List ByteArray × Int) := if (a0.size : Int) > 256 then (some (([] : List ByteArray), 2)) else (if a0.toList = ([] : List UInt8) then (cambiumref11_Split.j0 k a0 true) else (if 0 < (a0.size : Int) then (cambiumref11_Split.j0 k a0 ((bt a0 0) != 47)) else (none)))
theorem cambiumref11_Split.mono_l : ∀ k, (∀ y0 y1, LeO (cambiumref11_Split.j0 k y0 y1) (cambiumref11_Split.j0 (k + 1) y0 y1)) ∧ (∀ y0 y1 y2 y3, LeO (cambiumref11_Split.l0 k y0 y1 y2 y3) (cambiumref11_Split.l0 (k + 1) y0 y1 y2 y3)) ∧ (∀ y0 y1 y2 y3 y4, LeO (cambiumref11_Split.j2 k y0 y1 y2 y3 y4) (cambiumref11_Split.j2 (k + 1) y0 y1 y2 y3 y4))
 | 0 => by
  refine ⟨?_, ?_, ?_⟩ <;> (intros; intro r h; simp [cambiumref11_Split.j0, cambiumref11_Split.l0, cambiumref11_Split.j2] at h)
 | k + 1 => by
  obtain ⟨ih0, ih1, ih2⟩ := cambiumref11_Split.mono_l k
  refine ⟨?_, ?_, ?_⟩ <;> (intros; (first | unfold cambiumref11_Split.j0 | unfold cambiumref11_Split.l0 | unfold cambiumref11_Split.j2); repeat' (first | (with_reducible first | exact ih0 _ _ | exact ih1 _ _ _ _ | exact ih2 _ _ _ _ _ | exact cambiumref11_Name.mono _ _ | exact LeO.refl _ | exact LeO.none _ | refine LeO.ite ?_ ?_ | refine LeO.bind ?_ (fun _ => ?_))))
theorem cambiumref11_Split.mono : ∀ a0 k, LeO (cambiumref11_Split.f k a0) (cambiumref11_Split.f (k + 1) a0) := by
 intro a0 k
 obtain ⟨ih0, ih1, ih2⟩ := cambiumref11_Split.mono_l k
 unfold cambiumref11_Split.f
 repeat' (first | (with_reducible first | exact ih0 _ _ | exact ih1 _ _ _ _ | exact ih2 _ _ _ _ _ | exact cambiumref11_Name.mono _ _ | exact LeO.refl _ | exact LeO.none _ | refine LeO.ite ?_ ?_ | refine LeO.bind ?_ (fun _ => ?_)))
set_option maxHeartbeats 8000000 in
set_option maxRecDepth 100000 in
theorem cambiumref11_Split.calls (k : Nat) (a0 : ByteArray) (r1 : List ByteArray) (r2 : Int) (w : World) (h : cambiumref11_Split.f k a0 = some (r1, r2)) :
  Calls Tryz.prog 23 #[.string a0] w fun e w' => ∃ v0_ : Value, e = .returned (.tuple #[v0_, .int .i64 r2]) ∧ Kd.R Kd.string 9 w' w.heap.size (fun _ => True) v0_ r1 ∧ Below w.heap.size w w' := by
 have HB := ak_ (Below.refl w.heap.size w)
 have H : (if (a0.size : Int) > 256 then (some (([] : List ByteArray), 2)) else (if a0.toList = ([] : List UInt8) then (cambiumref11_Split.j0 k a0 true) else (if 0 < (a0.size : Int) then (cambiumref11_Split.j0 k a0 ((bt a0 0) != 47)) else (none)))) = some (r1, r2) := h
 clear h
 by_cases c2 : (a0.size : Int) > 256
 ·rw [if_pos c2] at H
  have c2b0 : decide (256 < (a0.size : Int)) = true := decide_eq_true c2
  clear c2
  simp only [Option.some.injEq, Prod.mk.injEq] at H
  obtain ⟨rfl, rfl⟩ := H
  go_enter Tryz.func23, Tryz.ntmps23
  go_wp2
  go_ret2
  exact ⟨_, rfl, by first | exact Kd.R_nil _ _ _ _ _ | exact Kd.N_nil _ _ _ _ _ | exact Kd.V_nil _ _ _ _ _ | exact Kd.Q_nil _ _ _ _ _ | exact Kd.S_nil _ _ _ _ _, bel_⟩
 rw [if_neg c2] at H
 have c2b0 : decide (256 < (a0.size : Int)) = false := decide_eq_false c2
 clear c2
 have HC3 := ak_ H
 clear H
 go_enter Tryz.func23, Tryz.ntmps23
 go_upto_region 3 with (fail)
 go_cut [16] (fun v16 wc => ∃ (kq : Nat) (x16_2 : Bool), v16 = .bool x16_2 ∧ Aside0 (cambiumref11_Split.j0 kq a0 x16_2 = some (r1, r2)) ∧ Aside0 (kq ≤ k) ∧ Aside0 (Below w.heap.size w wc))
 case first =>
  have H := HC3.out
  clear HC3
  by_cases c4 : a0.toList = ([] : List UInt8)
  ·rw [if_pos c4] at H
   have c4b0 : (a0.toList == ([] : List UInt8)) = true := beq_iff_eq.mpr c4
   clear c4
   (first | rw [c4b0] | (simp only [i64_w, i32_w]; rw [c4b0]) | skip)
   have H' := ak_ H
   clear H
   go_wp2
   go_meet
   case rel => exact ⟨_, (true), rfl, H', ⟨by first | omega | exact Nat.le_refl _⟩, ⟨bel_⟩⟩
  rw [if_neg c4] at H
  have c4b0 : (a0.toList == ([] : List UInt8)) = false := beq_eq_false_iff_ne.mpr c4
  (first | rw [c4b0] | (simp only [i64_w, i32_w]; rw [c4b0]) | skip)
  by_cases c5 : 0 < (a0.size : Int)
  ·rw [if_pos c5] at H
   have c5b0 : decide (0 < (a0.size : Int)) = true := decide_eq_true c5
   clear c5
   have H' := ak_ H
   clear H
   have p6 : 0 ≤ (0 : Int) := (by omega)
   have q6 : 0 < a0.size := (by have : (0 : Int) < (a0.size : Int) := of_decide_eq_true (by first | (with_reducible assumption) | assumption); omega)
   have hx6 : ∀ h : 0 < a0.size, ((a0[0]'h).toNat : Int) = bt a0 0 := bt_at a0 0
   clear p6
   have qi6 : (0 < (a0.size : Int)) = True := eq_true (of_decide_eq_true (by first | (with_reducible assumption) | assumption))
   replace q6 := eq_true q6
   go_wp2
   go_meet
   case rel => exact ⟨_, (((bt a0 0) != 47)), rfl, H', ⟨by first | omega | exact Nat.le_refl _⟩, ⟨bel_⟩⟩
  rw [if_neg c5] at H
  exact absurd H (by simp)
 case rest =>
  clear HC3
  obtain ⟨kq, x16_2, rfl, HA, HJ2, HB⟩ := hcut
  cases kq with
  | zero => exact absurd HA.out (by simp [cambiumref11_Split.j0])
  | succ kj2 =>
   have H := HA.out
   clear HA
   simp only [cambiumref11_Split.j0] at H
   by_cases c7 : x16_2 = true
   ·subst c7
    rw [if_pos rfl] at H
    simp only [Option.some.injEq, Prod.mk.injEq] at H
    obtain ⟨rfl, rfl⟩ := H
    go_wp2
    go_ret2
    exact ⟨_, rfl, by first | exact Kd.R_nil _ _ _ _ _ | exact Kd.N_nil _ _ _ _ _ | exact Kd.V_nil _ _ _ _ _ | exact Kd.Q_nil _ _ _ _ _ | exact Kd.S_nil _ _ _ _ _, bel_⟩
   replace c7 := Bool.eq_false_iff.mpr c7
   subst c7
   rw [if_neg (show ¬ (false = true) by decide)] at H
   by_cases c8 : a0.toList = ([47] : List UInt8)
   ·rw [if_pos c8] at H
    have c8b0 : (a0.toList == ([47] : List UInt8)) = true := beq_iff_eq.mpr c8
    clear c8
    simp only [Option.some.injEq, Prod.mk.injEq] at H
    obtain ⟨rfl, rfl⟩ := H
    go_wp2
    go_ret2
    exact ⟨_, rfl, by first | exact Kd.R_nil _ _ _ _ _ | exact Kd.N_nil _ _ _ _ _ | exact Kd.V_nil _ _ _ _ _ | exact Kd.Q_nil _ _ _ _ _ | exact Kd.S_nil _ _ _ _ _, bel_⟩
   rw [if_neg c8] at H
   have c8b0 : (a0.toList == ([47] : List UInt8)) = false := beq_eq_false_iff_ne.mpr c8
   have H' := ak_ H
   clear H
   go_wp2
   go_loopg [4, 5, 6] kj2 (fun kq v4 v5 v6 w' => ∃ (x4_2 : List ByteArray) (x5_2 : ByteArray) (x6_2 : Int), v5 = .string x5_2 ∧ v6 = .int .i64 x6_2 ∧ Aside0 (cambiumref11_Split.l0 kq a0 x4_2 x5_2 x6_2 = some (r1, r2)) ∧ Aside0 (kq ≤ kj2) ∧ Aside0 (Kd.R Kd.string 9 w' w.heap.size (fun _ => True) v4 x4_2) ∧ Aside0 (Below w.heap.size w w'))
   case atStart => exact ⟨(([] : List ByteArray)), ((⟨#[]⟩ : ByteArray)), (1), rfl, rfl, H', ⟨Nat.le_refl _⟩, ⟨by first | exact Kd.R_nil _ _ _ _ _ | exact Kd.N_nil _ _ _ _ _ | exact Kd.V_nil _ _ _ _ _ | exact Kd.Q_nil _ _ _ _ _ | exact Kd.S_nil _ _ _ _ _⟩, ⟨bel_⟩⟩
   case round =>
    clear H'
    obtain ⟨x4_2, x5_2, x6_2, rfl, rfl, HA, HK2, HO_4, HB⟩ := hrel
    cases gk with
    | zero => exact absurd HA.out (by simp [cambiumref11_Split.l0])
    | succ k2 =>
     have H := HA.out
     clear HA
     simp only [cambiumref11_Split.l0] at H
     by_cases c9 : x6_2 ≤ (a0.size : Int)
     ·rw [if_pos c9] at H
      have c9b0 : decide (x6_2 ≤ (a0.size : Int)) = true := decide_eq_true c9
      clear c9
      have HC10 := ak_ H
      clear H
      go_upto_region 12 with (fail)
      go_cut [35] (fun v35 wc => ∃ (kq : Nat) (x35_9 : Bool), v35 = .bool x35_9 ∧ Aside0 (cambiumref11_Split.j2 kq a0 x4_2 x5_2 x6_2 x35_9 = some (r1, r2)) ∧ Aside0 (kq ≤ k2) ∧ Aside0 (Kd.R Kd.string 9 wc w.heap.size (fun _ => True) u4 x4_2) ∧ Aside0 (Below w.heap.size w wc))
      case first =>
       have H := HC10.out
       clear HC10
       by_cases c11 : x6_2 < (a0.size : Int)
       ·rw [if_pos c11] at H
        have c11b0 : decide (x6_2 < (a0.size : Int)) = true := decide_eq_true c11
        clear c11
        (first | rw [c11b0] | (simp only [i64_w, i32_w]; rw [c11b0]) | skip)
        by_cases c12 : 0 ≤ x6_2
        ·rw [if_pos c12] at H
         have c12b0 : decide (0 ≤ x6_2) = true := decide_eq_true c12
         clear c12
         have H' := ak_ H
         clear H
         have p13 : 0 ≤ (x6_2 : Int) := of_decide_eq_true (by first | (with_reducible assumption) | assumption)
         have q13 : x6_2 < (a0.size : Int) := of_decide_eq_true (by first | (with_reducible assumption) | assumption)
         have hx13 := bt_at a0 x6_2
         replace p13 := eq_true p13
         replace q13 := eq_true q13
         go_wp2
         go_meet
         case rel => exact ⟨_, (((bt a0 x6_2) != 47)), rfl, H', ⟨by have := HJ2.out; have := HK2.out; first | omega | exact Nat.le_refl _⟩, ⟨ra_ HO_4⟩, ⟨bel_⟩⟩
        rw [if_neg c12] at H
        exact absurd H (by simp)
       rw [if_neg c11] at H
       have c11b0 : decide (x6_2 < (a0.size : Int)) = false := decide_eq_false c11
       clear c11
       (first | rw [c11b0] | (simp only [i64_w, i32_w]; rw [c11b0]) | skip)
       have H' := ak_ H
       clear H
       go_wp2
       go_meet
       case rel => exact ⟨_, (false), rfl, H', ⟨by have := HJ2.out; have := HK2.out; first | omega | exact Nat.le_refl _⟩, ⟨ra_ HO_4⟩, ⟨bel_⟩⟩
      case rest =>
       clear HC10
       obtain ⟨kq, x35_9, rfl, HA, HJ9, HO_4, HB⟩ := hcut
       cases kq with
       | zero => exact absurd HA.out (by simp [cambiumref11_Split.j2])
       | succ kj9 =>
        have H := HA.out
        clear HA
        simp only [cambiumref11_Split.j2] at H
        by_cases c14 : x35_9 = true
        ·subst c14
         rw [if_pos rfl] at H
         by_cases c15 : 0 ≤ x6_2
         ·rw [if_pos c15] at H
          have c15b0 := eq_true c15
          clear c15
          by_cases c16 : x6_2 ≤ (wrap64 (x6_2 + 1))
          ·rw [if_pos c16] at H
           have c16b0 := eq_true c16
           by_cases c17 : (wrap64 (x6_2 + 1)) ≤ (a0.size : Int)
           ·rw [if_pos c17] at H
            have c17b0 := eq_true c17
            by_cases c18 : x5_2.size + (a0.extract (x6_2 : Int).toNat ((wrap64 (x6_2 + 1)) : Int).toNat).size ≤ 9223372036854775807
            ·rw [if_pos c18] at H
             have c18b0 := eq_true c18
             (try simp only [Int.toNat_natCast] at c18b1)
             try have c18b2 : (9223372036854775807 < x5_2.size + (a0.extract (x6_2 : Int).toNat ((wrap64 (x6_2 + 1)) : Int).toNat).size) = False := eq_false (Nat.not_lt.2 c18)
             have H' := ak_ H
             clear H
             go_wp2
             go_roundg kj9
             case measure => have := HJ2.out; have := HK2.out; have := HJ9.out; omega
             case rel => exact ⟨(x4_2), (x5_2 ++ (a0.extract (x6_2 : Int).toNat ((wrap64 (x6_2 + 1)) : Int).toNat)), (wrap64 (x6_2 + 1)), rfl, rfl, H', ⟨by have := HJ2.out; have := HK2.out; have := HJ9.out; omega⟩, ⟨ra_ HO_4⟩, ⟨bel_⟩⟩
            rw [if_neg c18] at H
            exact absurd H (by simp)
           rw [if_neg c17] at H
           exact absurd H (by simp)
          rw [if_neg c16] at H
          exact absurd H (by simp)
         rw [if_neg c15] at H
         exact absurd H (by simp)
        replace c14 := Bool.eq_false_iff.mpr c14
        subst c14
        rw [if_neg (show ¬ (false = true) by decide)] at H
        replace H := Option.bind_eq_some_iff.mp H
        obtain ⟨t340, A190, H⟩ := H
        try dsimp only at H
        have A19 := ak_ A190
        clear A190
        by_cases c20 : t340 = true
        ·subst c20
         rw [if_pos rfl] at H
         by_cases c21 : x4_2.length < 8796093022208
         ·rw [if_pos c21] at H
          have LMc21 := ak_ c21
          clear c21
          obtain ⟨y341, hy341⟩ : ∃ y_ : List ByteArray, y_ = (x4_2 ++ [x5_2]) := ⟨_, rfl⟩
          replace H : (cambiumref11_Split.l0 kj9 a0 y341 (⟨#[]⟩ : ByteArray) (wrap64 (x6_2 + 1))) = some (r1, r2) := by first | (rw [hy341]; with_reducible exact H) | (have H2_ := (Option.bind_some _ _).symm.trans H; rw [hy341]; with_reducible exact H2_) | (have H2_ := (Option.bind_some _ _).symm.trans H; with_reducible exact H2_) | with_reducible exact H | (rw [hy341]; exact H) | exact H
          have Ny341 := ak_ hy341
          clear hy341
          have H' := ak_ H
          clear H
          go_wp2_with (first | ((with_reducible refine gate_callee (f := 42) rfl ?_); refine gl_ (some 44) Tryz.func42 #[.string x5_2] ?_; (with_reducible refine (cambiumref11_Name.calls kj9 x5_2 true _ A19.out).mono ?_); rintro e w' ⟨rfl, ⟨nd, rfl⟩⟩; refine ⟨_, rfl, ?_⟩) | ((with_reducible refine gate_builtin (b := .append) (xs := #[.tmp 46, .tmp 48]) rfl ?_); at_builtin; refine Kd.R_append Kd.string (w0 := w) w.heap.size rfl (.tmp 46) (.tmp 48) 23 9 (.string ⟨#[]⟩) 16 rfl Tryz.underlying23 info9 rfl (by decide) (by omega) u4 x4_2 x5_2 [.string x5_2] (fun _ => True) (fun _ => False) rfl rfl ?aP (fun _ hk => hk.elim) ?aF ?aO ?aB ?aS ?aL ?_; (case aP => exact rfl); (case aB => exact bel_); (case aF => exact (fun _ _ => trivial)); (case aO => exact (ra_ HO_4)); (case aS => exact (below_size bel_)); (case aL => have := LMc21.out; omega); intro v342 w22 ho hb hg hat; rw [← Ny341.out] at ho; have HO343 := ak_ (ho); replace HB := ak_ (hb); clear HO_4; clear ho hb hg hat))
          go_roundg kj9
          case measure => have := HJ2.out; have := HK2.out; have := HJ9.out; omega
          case rel => exact ⟨(y341), ((⟨#[]⟩ : ByteArray)), (wrap64 (x6_2 + 1)), rfl, rfl, H', ⟨by have := HJ2.out; have := HK2.out; have := HJ9.out; omega⟩, ⟨ra_ HO343⟩, ⟨bel_⟩⟩
         rw [if_neg c21] at H
         exact absurd H (by simp)
        replace c20 := Bool.eq_false_iff.mpr c20
        subst c20
        rw [if_neg (show ¬ (false = true) by decide)] at H
        simp only [Option.some.injEq, Prod.mk.injEq] at H
        obtain ⟨rfl, rfl⟩ := H
        go_wp2_with (first | ((with_reducible refine gate_callee (f := 42) rfl ?_); refine gl_ (some 44) Tryz.func42 #[.string x5_2] ?_; (with_reducible refine (cambiumref11_Name.calls kj9 x5_2 false _ A19.out).mono ?_); rintro e w' ⟨rfl, ⟨nd, rfl⟩⟩; refine ⟨_, rfl, ?_⟩))
        go_ret2
        exact ⟨_, rfl, by first | exact Kd.R_nil _ _ _ _ _ | exact Kd.N_nil _ _ _ _ _ | exact Kd.V_nil _ _ _ _ _ | exact Kd.Q_nil _ _ _ _ _ | exact Kd.S_nil _ _ _ _ _, bel_⟩
     rw [if_neg c9] at H
     have c9b0 : decide (x6_2 ≤ (a0.size : Int)) = false := decide_eq_false c9
     clear c9
     simp only [Option.some.injEq, Prod.mk.injEq] at H
     obtain ⟨rfl, rfl⟩ := H
     go_wp2
     go_ret2
     exact ⟨_, rfl, by (with_reducible repeat (first | apply Kd.R_alloc | apply Kd.R_drewN | apply Kd.R_drew)); exact HO_4.out, bel_⟩
end Go.Proofs.YtpnmajblhgnkoaaGreat.Z
end

section
namespace Go.Proofs.YtpnmajblhgnkoaaGreat.Z
open Go.Proofs.YtpnmajblhgnkoaaGreat.PM
def baP (x : List (List UInt8) × Int) : List ByteArray × Int := (x.1.map ba, x.2)
theorem cut_f (s : ByteArray) (hs : s.size ≤ 9223372036854775806) :
    (47 ∉ s.data.toList ∧ strings_Cut.f s ⟨#[47]⟩ = some (s, ⟨#[]⟩, false)) ∨
    ∃ a b, s.data.toList = a ++ 47 :: b ∧ 47 ∉ a ∧ strings_Cut.f s ⟨#[47]⟩ = some (ba a, ba b, true) := by
  have hidx : stringslite_Index.f s ⟨#[47]⟩ = some (Lib.indexByte s.data.toList 47) := by unfold stringslite_Index.f; rw [dif_pos (by rfl)]; rfl
  have hz := size_len s
  by_cases h : 0 ≤ Lib.indexByte s.data.toList 47
  · right
    obtain ⟨o, ho⟩ : ∃ o : Nat, Lib.indexByte s.data.toList 47 = o := ⟨_, (Int.toNat_of_nonneg h).symm⟩
    obtain ⟨h1, h2⟩ := Lib.indexByte_some ho
    obtain ⟨hlt, hget⟩ := List.getElem?_eq_some_iff.1 h1
    refine ⟨s.data.toList.take o, s.data.toList.drop (o + 1), ?_, ?_, ?_⟩
    · rw [← hget, ← List.drop_eq_getElem_cons hlt, List.take_append_drop]
    · intro hm
      obtain ⟨j, hj, hje⟩ := List.getElem_of_mem hm
      rw [List.length_take] at hj
      exact h2 j (by omega) (by rw [List.getElem_take] at hje; rw [← hje]; exact List.getElem?_eq_getElem (by omega))
    · unfold strings_Cut.f stringslite_Cut.f
      rw [hidx, ho]
      have s1 : ((⟨#[47]⟩ : ByteArray).size : Int) = 1 := rfl
      simp only [Option.bind_some, s1]
      rw [if_pos (by omega), if_pos (by omega), if_pos (by omega), w64 (by omega) (by omega), if_pos (by omega), if_pos (by omega)]
      simp only [Option.bind_some, Option.some.injEq, Prod.mk.injEq, and_true]
      constructor
      · rw [Lib.extract_eq]; simp [ba]
      · rw [Lib.extract_eq]
        have : ((o : Int) + 1).toNat = o + 1 := by omega
        rw [this, hz]
        unfold ba
        rw [List.take_of_length_le (by simp)]
  · left
    refine ⟨fun hm => h ((index_mem _ _).2 hm), ?_⟩
    unfold strings_Cut.f stringslite_Cut.f
    rw [hidx]
    simp only [Option.bind_some]
    rw [if_neg (by omega)]
    rfl
theorem split_l0 : ∀ (m : Nat) (rest : ByteArray) (acc : List ByteArray), rest.data.toList.length ≤ m → acc.length + rest.data.toList.length ≤ 1000 →
    Ev (fun k => path_Split.l0 k rest acc) (if (splitL rest.data.toList).all nameL then (acc ++ (splitL rest.data.toList).map ba, 0) else ([], 10))
  | m, rest, acc, hm, hb => by
    refine Ev.step (fun k => by rw [path_Split.l0]) ?_
    have hz := size_len rest
    rcases cut_f rest (by omega) with ⟨hno, hc⟩ | ⟨a, b, hab, hno, hc⟩
    · refine Ev.bindc hc (Ev.bindc (name_f _) ?_)
      simp only
      rw [splitL_none _ hno]
      by_cases hn : nameL rest.data.toList = true
      · refine Ev.ifp hn (Ev.ifp (by omega) (Ev.bindc rfl (Ev.ifn (by simp) (Ev.const ?_))))
        simp [hn, data_ba]
      · refine Ev.ifn hn (Ev.const ?_)
        simp [hn]
    · refine Ev.bindc hc (Ev.bindc (name_f _) ?_)
      simp only [ba_data]
      rw [hab, splitL_at _ _ hno]
      have hl : rest.data.toList.length = a.length + b.length + 1 := by rw [hab]; simp; omega
      by_cases hn : nameL a = true
      · refine Ev.ifp hn (Ev.ifp (by omega) (Ev.bindc rfl (Ev.ifp trivial ?_)))
        cases m with
        | zero => omega
        | succ m =>
          have ih := split_l0 m (ba b) (acc ++ [ba a]) (by rw [ba_data]; omega) (by rw [ba_data]; simp; omega)
          rw [ba_data] at ih
          refine Ev.val ih ?_
          simp [hn]
      · refine Ev.ifn hn (Ev.const ?_)
        simp [hn]
theorem cutPrefix_f (s : ByteArray) : strings_CutPrefix.f s ⟨#[47]⟩ = some (match s.data.toList with | 47 :: r => (ba r, true) | _ => (s, false)) := by
  have hz := size_len s
  have s1 : ((⟨#[47]⟩ : ByteArray).size : Int) = 1 := rfl
  have s2 : (⟨#[47]⟩ : ByteArray).toList = [47] := by rw [ByteArray.toList_eq]
  unfold strings_CutPrefix.f stringslite_CutPrefix.f stringslite_HasPrefix.f
  simp only [s1, s2]
  cases hd : s.data.toList with
  | nil =>
    have h0 : s.size = 0 := by rw [hz, hd]; rfl
    rw [if_neg (by omega)]; rfl
  | cons c r =>
    rw [hd] at hz
    simp only [List.length_cons] at hz
    rw [if_pos (by omega), if_pos (by omega), if_pos (by omega)]
    have e1 : (s.extract 0 (1 : Int).toNat).toList = [c] := by rw [Lib.extract_toList, hd]; rfl
    rw [e1]
    by_cases hc : c = 47
    · subst hc
      simp only [Option.bind_some, beq_self_eq_true, if_true]
      rw [if_pos (by omega), if_pos (by omega)]
      simp only [Option.bind_some, Option.some.injEq, Prod.mk.injEq, and_true]
      rw [Lib.extract_eq, hd]
      simp [ba, hz]
    · have hb : ([c] == ([47] : List UInt8)) = false := by simpa using hc
      rw [hb]
      simp only [Option.bind_some]
      rw [if_neg (by simp)]
      split
      · rename_i heq; injection heq with h1 _; exact absurd h1 hc
      · rfl
theorem split_f (p : ByteArray) : Ev (fun k => path_Split.f k p) (baP (pathSpec p.data.toList)) := by
  have hz := size_len p
  unfold path_Split.f pathSpec
  by_cases h256 : (p.size : Int) > 256
  · refine Ev.ifp h256 (Ev.const ?_)
    rw [if_pos (by omega)]; rfl
  · refine Ev.ifn h256 (Ev.bindc (cutPrefix_f p) ?_)
    rw [if_neg (by omega)]
    cases hd : p.data.toList with
    | nil => exact Ev.ifn (by simp) (Ev.const rfl)
    | cons c r =>
      by_cases hc : c = 47
      · subst hc
        refine Ev.ifp rfl ?_
        simp only
        by_cases hr : r = []
        · subst hr
          refine Ev.ifp (by rw [ba_toList]) (Ev.const rfl)
        · refine Ev.ifn (by rw [ba_toList]; exact hr) ?_
          rw [hd] at hz
          simp only [List.length_cons] at hz
          refine Ev.val (split_l0 _ (ba r) [] (Nat.le_refl _) (by rw [ba_data]; simp; omega)) ?_
          rw [ba_data, if_pos trivial, if_neg hr]
          split <;> simp [baP]
      · have : (match c :: r with | 47 :: r => (ba r, true) | _ => (p, false)) = (p, false) := by
          split
          · rename_i heq; injection heq with h1 _; exact absurd h1 hc
          · rfl
        rw [this]
        refine Ev.ifn (by simp) (Ev.const ?_)
        simp only
        rw [if_neg hc]; rfl
theorem ref_l0 (p : ByteArray) (hp : p.data.toList.length ≤ 256) : ∀ (d i : Nat) (acc : List ByteArray) (nm : List UInt8), p.data.toList.length + 1 = i + d → acc.length + nm.length ≤ i →
    Ev (fun k => cambiumref11_Split.l0 k p acc (ba nm) (i : Int)) (if i = p.data.toList.length + 1 then (acc, 0) else if (pre nm (splitL (p.data.toList.drop i))).all nameL then (acc ++ (pre nm (splitL (p.data.toList.drop i))).map ba, 0) else ([], 10))
  | 0, i, acc, nm, hi, ha => by
    have hz := size_len p
    refine Ev.step (fun k => by rw [cambiumref11_Split.l0]) (Ev.ifn (by omega) (Ev.const ?_))
    rw [if_pos (by omega)]
  | d + 1, i, acc, nm, hi, ha => by
    have hz := size_len p
    refine Ev.step (fun k => by rw [cambiumref11_Split.l0]) (Ev.ifp (by omega) ?_)
    rw [if_neg (by omega)]
    have hadd : wrap64 ((i : Int) + 1) = ((i + 1 : Nat) : Int) := by rw [w64 (by omega) (by omega)]; omega
    have fin : ∀ (g : List (List UInt8)), pre nm (splitL (p.data.toList.drop i)) = nm :: g → Ev (fun k => cambiumref11_Split.l0 k p (acc ++ [ba nm]) (ba []) ((i + 1 : Nat) : Int)) (if g.all nameL then (acc ++ [ba nm] ++ g.map ba, 0) else ([], 10)) →
        Ev (fun k => cambiumref11_Split.j2 k p acc (ba nm) (i : Int) false) (if (pre nm (splitL (p.data.toList.drop i))).all nameL then (acc ++ (pre nm (splitL (p.data.toList.drop i))).map ba, 0) else ([], 10)) := by
      intro g hg hE
      refine Ev.step (fun k => by rw [cambiumref11_Split.j2]) (Ev.ifn (by simp) (Ev.bind (refName (ba nm) (by rw [ba_size]; omega)) ?_))
      rw [ba_data, hg]
      by_cases hn : nameL nm = true
      · refine Ev.ifp hn (Ev.ifp (by omega) ?_)
        rw [hadd]
        refine Ev.val hE ?_
        simp [hn]
      · refine Ev.ifn hn (Ev.const ?_)
        simp [hn]
    by_cases hlt : i < p.data.toList.length
    · refine Ev.ifp (by omega) (Ev.ifp (by omega) ?_)
      rw [bt_get p i hlt]
      have e47 := byte_eq (p.data.toList[i]) 47 (by decide)
      by_cases hc : p.data.toList[i] = 47
      · have hb : (((p.data.toList[i].toNat : Int)) != 47) = false := by simpa using e47.2 hc
        rw [hb]
        have ih := ref_l0 p hp d (i + 1) (acc ++ [ba nm]) [] (by omega) (by simp; omega)
        rw [if_neg (by omega), pre_nil (splitL_ne _)] at ih
        refine fin _ ?_ ih
        rw [List.drop_eq_getElem_cons hlt, hc, splitL_cons_eq]; simp [pre]
      · have hb : (((p.data.toList[i].toNat : Int)) != 47) = true := by simpa using fun e => hc (e47.1 e)
        rw [hb]
        have ex : p.extract i (i + 1) = ba [p.data.toList[i]] := by
          rw [Lib.extract_eq, List.drop_eq_getElem_cons hlt]; simp [ba]
        have ih := ref_l0 p hp d (i + 1) acc (nm ++ [p.data.toList[i]]) (by omega) (by simp; omega)
        rw [if_neg (by omega)] at ih
        refine Ev.step (fun k => by rw [cambiumref11_Split.j2]) (Ev.ifp rfl ?_)
        rw [hadd]
        have t1 : ((i : Nat) : Int).toNat = i := by omega
        have t2 : ((i + 1 : Nat) : Int).toNat = i + 1 := by omega
        rw [t1, t2, ex, ba_app, ba_size, ba_size]
        refine Ev.ifp (by omega) (Ev.ifp (by omega) (Ev.ifp (by omega) (Ev.ifp (by simp; omega) ?_)))
        refine Ev.val ih ?_
        rw [← pre_pre, ← splitL_cons_ne hc, ← List.drop_eq_getElem_cons hlt]
    · refine Ev.ifn (by omega) ?_
      have ih := ref_l0 p hp d (i + 1) (acc ++ [ba nm]) [] (by omega) (by simp; omega)
      rw [if_pos (by omega)] at ih
      refine fin [] ?_ (Ev.val ih (by simp))
      rw [List.drop_of_length_le (by omega)]; simp [splitL, pre]
theorem refSplit_f (p : ByteArray) : Ev (fun k => cambiumref11_Split.f k p) (baP (pathSpec p.data.toList)) := by
  have hz := size_len p
  unfold cambiumref11_Split.f pathSpec
  by_cases h256 : (p.size : Int) > 256
  · refine Ev.ifp h256 (Ev.const ?_)
    rw [if_pos (by omega)]; rfl
  · refine Ev.ifn h256 ?_
    rw [if_neg (by omega)]
    have hj : ∀ b, (b = true → (match p.data.toList with | [] => ([], 10) | c :: rest => if c = 47 then (if rest = [] then ([], 0) else if (splitL rest).all nameL then (splitL rest, 0) else ([], 10)) else (([] : List (List UInt8)), (10 : Int))) = ([], 10)) →
        (b = false → ∃ r, p.data.toList = 47 :: r) →
        Ev (fun k => cambiumref11_Split.j0 k p b) (baP (match p.data.toList with | [] => ([], 10) | c :: rest => if c = 47 then (if rest = [] then ([], 0) else if (splitL rest).all nameL then (splitL rest, 0) else ([], 10)) else ([], 10))) := by
      intro b hb1 hb2
      refine Ev.step (fun k => by rw [cambiumref11_Split.j0]) ?_
      cases b with
      | true => refine Ev.ifp rfl (Ev.const ?_); rw [hb1 rfl]; rfl
      | false =>
        obtain ⟨r, hr⟩ := hb2 rfl
        refine Ev.ifn (by simp) ?_
        rw [ByteArray.toList_eq, hr]
        simp only
        rw [if_pos trivial]
        by_cases hr0 : r = []
        · subst hr0; exact Ev.ifp rfl (Ev.const rfl)
        · refine Ev.ifn (by simpa using hr0) ?_
          rw [if_neg hr0]
          have hl : p.data.toList.length = r.length + 1 := by rw [hr]; rfl
          have h := ref_l0 p (by omega) p.data.toList.length 1 [] [] (by omega) (by simp)
          have hrl : 0 < r.length := List.length_pos_iff.2 hr0
          rw [if_neg (by omega), pre_nil (splitL_ne _), hr] at h
          refine Ev.val h ?_
          simp only [List.drop_succ_cons, List.drop_zero]
          split <;> simp [baP]
    cases hd : p.data.toList with
    | nil =>
      have h := hj true (fun _ => by rw [hd]) (fun h => by simp at h)
      rw [hd] at h
      exact Ev.ifp (by rw [toList_nil, hd]) h
    | cons c r =>
      have hl : p.data.toList.length = r.length + 1 := by rw [hd]; rfl
      refine Ev.ifn (by rw [toList_nil, hd]; simp) (Ev.ifp (by omega) ?_)
      have hb := bt_get p 0 (by omega)
      have hg : p.data.toList[0] = c := by simp only [hd]; rfl
      rw [hg] at hb
      have e47 := byte_eq c 47 (by decide)
      rw [show bt p 0 = ((c.toNat : Nat) : Int) from hb]
      rw [← hd]
      refine hj _ ?_ ?_
      · intro hh
        have hc : c ≠ 47 := fun e => by rw [e47.2 e] at hh; simp at hh
        rw [hd]; simp only; rw [if_neg hc]
      · intro hh
        have hc : c = 47 := e47.1 (by simpa using hh)
        exact ⟨r, by rw [hd, hc]⟩
end Go.Proofs.YtpnmajblhgnkoaaGreat.Z
end

section
namespace Go.Proofs.YtpnmajblhgnkoaaGreat.PM
open Go
def be : Nat → Nat → List UInt8
  | 0, _ => []
  | w + 1, n => be w (n / 256) ++ [UInt8.ofNat (n % 256)]
theorem be_len : ∀ w n, (be w n).length = w
  | 0, _ => rfl
  | w + 1, n => by rw [be, List.length_append, be_len w]; rfl
theorem be_cons : ∀ w n, be (w + 1) n = UInt8.ofNat (n / 256 ^ w % 256) :: be w n
  | 0, n => by simp [be]
  | w + 1, n => by
    have h := be_cons w (n / 256)
    rw [be, h, be, List.cons_append, Nat.div_div_eq_div_mul, ← Nat.pow_succ']
def num (l : List UInt8) : Nat := l.foldl (fun a b => a * 256 + b.toNat) 0
theorem num_snoc (l : List UInt8) (b : UInt8) : num (l ++ [b]) = num l * 256 + b.toNat := by simp [num]
theorem ofNat_toNat (n : Nat) : (UInt8.ofNat (n % 256)).toNat = n % 256 := by simp
theorem num_be : ∀ w n, n < 256 ^ w → num (be w n) = n
  | 0, n, h => by
    have : n = 0 := by simpa using h
    subst this
    rfl
  | w + 1, n, h => by
    rw [be, num_snoc, num_be w (n / 256) (by rw [Nat.pow_succ] at h; omega), ofNat_toNat]
    omega
theorem num_lt : ∀ (k : Nat) (l : List UInt8), l.length = k → num l < 256 ^ k
  | 0, l, h => by rw [List.length_eq_zero_iff.1 h]; exact Nat.one_pos
  | k + 1, l, h => by
    obtain rfl | ⟨l', b, rfl⟩ := List.eq_nil_or_concat l
    · cases h
    · rw [List.concat_eq_append] at h ⊢
      rw [num_snoc, Nat.pow_succ]
      have h1 := num_lt k l' (by simpa using h)
      have h2 := b.toNat_lt
      omega
theorem be_num : ∀ (k : Nat) (l : List UInt8), l.length = k → be k (num l) = l
  | 0, l, h => by rw [List.length_eq_zero_iff.1 h]; rfl
  | k + 1, l, h => by
    obtain rfl | ⟨l', b, rfl⟩ := List.eq_nil_or_concat l
    · cases h
    · rw [List.concat_eq_append] at h ⊢
      have h2 := b.toNat_lt
      rw [num_snoc, be, show (num l' * 256 + b.toNat) / 256 = num l' by omega, show (num l' * 256 + b.toNat) % 256 = b.toNat by omega, be_num k l' (by simpa using h)]
      simp
theorem tk {n : Nat} {a r : List UInt8} (h : a.length = n) : (a ++ r).take n = a := by subst h; simp
theorem dr {n : Nat} {a r : List UInt8} (h : a.length = n) : (a ++ r).drop n = r := by subst h; simp
def okN (k l s : Int) (t : List UInt8) : Bool :=
  decide (k = 1 ∧ l = 1 ∧ s = 0 ∧ t = [] ∨ k = 2 ∧ 0 < l ∧ s ≤ 65536 ∧ t = [] ∨ k = 3 ∧ 0 < l ∧ t ≠ [] ∧ t.length ≤ 64 ∧ 0 ∉ t ∧ s = t.length)
def enc (k m l s : Int) (t : List UInt8) : List UInt8 := be 1 k.toNat ++ (be 2 m.toNat ++ (be 4 l.toNat ++ (be 4 s.toNat ++ (be 2 t.length ++ t))))
def encS (k m l s : Int) (t : List UInt8) : List UInt8 × Int := if okN k l s t = true then (enc k m l s t, 0) else ([], 4)
abbrev Ino := Int × Int × Int × Int × List UInt8 × Int
def d3 (l : List UInt8) : List UInt8 := (l.drop 1).drop 2
def d7 (l : List UInt8) : List UInt8 := (d3 l).drop 4
def d11 (l : List UInt8) : List UInt8 := (d7 l).drop 4
def d13 (l : List UInt8) : List UInt8 := (d11 l).drop 2
def f1 (l : List UInt8) : Int := num (l.take 1)
def f2 (l : List UInt8) : Int := num ((l.drop 1).take 2)
def f3 (l : List UInt8) : Int := num ((d3 l).take 4)
def f4 (l : List UInt8) : Int := num ((d7 l).take 4)
def whole (l : List UInt8) : Prop := 13 ≤ l.length ∧ l.length = 13 + num ((d11 l).take 2)
instance (l : List UInt8) : Decidable (whole l) := by unfold whole; infer_instance
def decS (l : List UInt8) : Ino := if whole l ∧ okN (f1 l) (f3 l) (f4 l) (d13 l) = true then (f1 l, f2 l, f3 l, f4 l, d13 l, 0) else (0, 0, 0, 0, [], 4)
theorem p1 : 256 ^ 1 = 256 := rfl
theorem p2 : 256 ^ 2 = 65536 := rfl
theorem p4 : 256 ^ 4 = 4294967296 := rfl
theorem f_range (l : List UInt8) (h : whole l) : (0 ≤ f1 l ∧ f1 l < 256) ∧ (0 ≤ f2 l ∧ f2 l < 65536) ∧ (0 ≤ f3 l ∧ f3 l < 4294967296) ∧ (0 ≤ f4 l ∧ f4 l < 4294967296) := by
  obtain ⟨h1, h2⟩ := h
  have l3 : (d3 l).length = l.length - 3 := by unfold d3; simp only [List.length_drop]; omega
  have l7 : (d7 l).length = l.length - 7 := by unfold d7; rw [List.length_drop, l3]; omega
  have a1 := num_lt 1 (l.take 1) (by rw [List.length_take]; omega)
  have a2 := num_lt 2 ((l.drop 1).take 2) (by rw [List.length_take, List.length_drop]; omega)
  have a3 := num_lt 4 ((d3 l).take 4) (by rw [List.length_take]; omega)
  have a4 := num_lt 4 ((d7 l).take 4) (by rw [List.length_take]; omega)
  rw [p1] at a1
  rw [p2] at a2
  rw [p4] at a3 a4
  unfold f1 f2 f3 f4
  omega
def lett (k : Int) : List UInt8 := if k = 1 then [105] else if k = 2 then [100] else if k = 3 then [99] else if k = 4 then [120] else []
def prefL (k i : Int) : List UInt8 := if lett k = [] then [] else lett k ++ be 4 i.toNat
def rightK (k i : Int) (nm : List UInt8) (c : Int) : Bool :=
  decide (0 < i ∧ (k = 1 ∧ nm = [] ∧ c = 0 ∨ (k = 2 ∨ k = 4) ∧ nameL nm = true ∧ c = 0 ∨ k = 3 ∧ nm = [] ∧ c < 512))
def keyL (k i : Int) (nm : List UInt8) (c : Int) : List UInt8 := prefL k i ++ (if k = 3 then be 4 c.toNat else nm)
def keyS (k i : Int) (nm : List UInt8) (c : Int) : List UInt8 × Int := if rightK k i nm c = true then (keyL k i nm c, 0) else ([], 4)
def kindOf (b : UInt8) : Int := if b = 105 then 1 else if b = 100 then 2 else if b = 99 then 3 else if b = 120 then 4 else 0
abbrev KeyT := Int × Int × List UInt8 × Int × Int
def g1 (l : List UInt8) : Int := kindOf (l.headD 0)
def g2 (l : List UInt8) : Int := num ((l.drop 1).take 4)
def r5 (l : List UInt8) : List UInt8 := (l.drop 1).drop 4
def parsS (l : List UInt8) : KeyT :=
  if l.length < 5 then (0, 0, [], 0, 4)
  else if g1 l = 3 then if (r5 l).length = 4 ∧ rightK 3 (g2 l) [] (num (r5 l)) = true then (3, g2 l, [], num (r5 l), 0) else (0, 0, [], 0, 4)
  else if rightK (g1 l) (g2 l) (r5 l) 0 = true then (g1 l, g2 l, r5 l, 0, 0) else (0, 0, [], 0, 4)
theorem lett_one {k : Int} (h : lett k ≠ []) : ∃ b, lett k = [b] ∧ kindOf b = k := by
  unfold lett at *
  by_cases h1 : k = 1
  · subst h1; exact ⟨105, rfl, rfl⟩
  · by_cases h2 : k = 2
    · subst h2; exact ⟨100, rfl, rfl⟩
    · by_cases h3 : k = 3
      · subst h3; exact ⟨99, rfl, rfl⟩
      · by_cases h4 : k = 4
        · subst h4; exact ⟨120, rfl, rfl⟩
        · rw [if_neg h1, if_neg h2, if_neg h3, if_neg h4] at h
          exact absurd rfl h
theorem lett_ne {k i : Int} {nm : List UInt8} {c : Int} (h : rightK k i nm c = true) : lett k ≠ [] := by
  unfold rightK at h
  have h := (of_decide_eq_true h).2
  unfold lett
  rcases h with h | h | h
  · rw [if_pos h.1]; simp
  · rcases h.1 with h | h <;> subst h <;> decide
  · rw [h.1]; decide
theorem prefL_len {k i : Int} (h : lett k ≠ []) : (prefL k i).length = 5 := by
  obtain ⟨b, hb, _⟩ := lett_one h
  unfold prefL
  rw [if_neg h, hb, List.length_append, be_len]
  rfl
theorem key_parts {k i : Int} {nm : List UInt8} {c : Int} (h : lett k ≠ []) (hi : 0 ≤ i ∧ i < 4294967296) :
    g1 (keyL k i nm c) = k ∧ g2 (keyL k i nm c) = i ∧ r5 (keyL k i nm c) = (if k = 3 then be 4 c.toNat else nm) ∧ ¬ (keyL k i nm c).length < 5 := by
  obtain ⟨b, hb, hk⟩ := lett_one h
  have e : keyL k i nm c = b :: (be 4 i.toNat ++ (if k = 3 then be 4 c.toNat else nm)) := by
    unfold keyL prefL
    rw [if_neg h, hb]
    rfl
  rw [e]
  refine ⟨hk, ?_, ?_, ?_⟩
  · unfold g2
    rw [List.drop_one, List.tail_cons, tk (be_len _ _), num_be 4 _ (by rw [p4]; omega)]
    omega
  · unfold r5
    rw [List.drop_one, List.tail_cons, dr (be_len _ _)]
  · rw [List.length_cons, List.length_append, be_len]; omega
theorem pars_key {k i : Int} {nm : List UInt8} {c : Int} (h : rightK k i nm c = true) (hi : 0 ≤ i ∧ i < 4294967296) (hc : 0 ≤ c) : parsS (keyL k i nm c) = (k, i, nm, c, 0) := by
  have hl := lett_ne h
  obtain ⟨a1, a2, a3, a4⟩ := key_parts (nm := nm) (c := c) hl hi
  unfold parsS
  rw [if_neg a4, a1, a2, a3]
  have h0 := h
  unfold rightK at h0
  have h1 := (of_decide_eq_true h0).2
  by_cases h3 : k = 3
  · subst h3
    have hn : nm = [] ∧ c < 512 := by
      rcases h1 with h1 | h1 | h1
      · exact absurd h1.1 (by decide)
      · rcases h1.1 with h1 | h1 <;> exact absurd h1 (by decide)
      · exact h1.2
    obtain ⟨rfl, hc2⟩ := hn
    have e : ((num (be 4 c.toNat) : Nat) : Int) = c := by rw [num_be 4 _ (by rw [p4]; omega)]; omega
    rw [if_pos rfl, if_pos rfl, e, if_pos ⟨be_len _ _, h⟩]
  · have hc0 : c = 0 := by
      rcases h1 with h1 | h1 | h1
      · exact h1.2.2
      · exact h1.2.2
      · exact absurd h1.1 h3
    subst hc0
    rw [if_neg h3, if_neg h3, if_pos h]
theorem kind_lett {b : UInt8} (h : kindOf b ≠ 0) : lett (kindOf b) = [b] := by
  unfold kindOf at *
  by_cases h1 : b = 105
  · subst h1; rfl
  · by_cases h2 : b = 100
    · subst h2; rfl
    · by_cases h3 : b = 99
      · subst h3; rfl
      · by_cases h4 : b = 120
        · subst h4; rfl
        · rw [if_neg h1, if_neg h2, if_neg h3, if_neg h4] at h
          exact absurd rfl h
theorem key_whole {l : List UInt8} (h5 : ¬ l.length < 5) (hk : g1 l ≠ 0) : prefL (g1 l) (g2 l) ++ r5 l = l := by
  match l, h5 with
  | b :: r, h5 =>
    have hk : kindOf b ≠ 0 := hk
    have e : lett (g1 (b :: r)) = [b] := kind_lett hk
    have hr : 4 ≤ r.length := by simp at h5; omega
    unfold prefL
    rw [e, if_neg (by simp)]
    unfold g2 r5
    rw [List.drop_one, List.tail_cons, Int.toNat_natCast, be_num 4 _ (by rw [List.length_take]; omega)]
    simp
  | [], h5 => exact absurd (by decide) h5
theorem g2_range {l : List UInt8} (h5 : ¬ l.length < 5) : 0 ≤ g2 l ∧ g2 l < 4294967296 := by
  have a := num_lt 4 ((l.drop 1).take 4) (by rw [List.length_take, List.length_drop]; omega)
  rw [p4] at a
  unfold g2
  omega
theorem right_kind {k i : Int} {nm : List UInt8} {c : Int} (h : rightK k i nm c = true) : k ≠ 0 := by
  unfold rightK at h
  have h := (of_decide_eq_true h).2
  omega
theorem key_pars {l : List UInt8} {k i : Int} {nm : List UInt8} {c e : Int} (h : parsS l = (k, i, nm, c, e)) (he : e = 0) :
    rightK k i nm c = true ∧ keyL k i nm c = l ∧ (0 ≤ i ∧ i < 4294967296) ∧ 0 ≤ c := by
  subst he
  unfold parsS at h
  by_cases h5 : l.length < 5
  · rw [if_pos h5] at h; simp at h
  · rw [if_neg h5] at h
    by_cases h3 : g1 l = 3
    · rw [if_pos h3] at h
      by_cases hr : (r5 l).length = 4 ∧ rightK 3 (g2 l) [] (num (r5 l)) = true
      · rw [if_pos hr] at h
        simp only [Prod.mk.injEq] at h
        obtain ⟨rfl, rfl, rfl, rfl, _⟩ := h
        have hw := key_whole h5 (by rw [h3]; decide)
        refine ⟨hr.2, ?_, g2_range h5, by omega⟩
        unfold keyL
        rw [if_pos rfl, Int.toNat_natCast, be_num 4 _ hr.1]
        rw [h3] at hw
        exact hw
      · rw [if_neg hr] at h; simp at h
    · rw [if_neg h3] at h
      by_cases hr : rightK (g1 l) (g2 l) (r5 l) 0 = true
      · rw [if_pos hr] at h
        simp only [Prod.mk.injEq] at h
        obtain ⟨rfl, rfl, rfl, rfl, _⟩ := h
        refine ⟨hr, ?_, g2_range h5, by omega⟩
        unfold keyL
        rw [if_neg h3]
        exact key_whole h5 (right_kind hr)
      · rw [if_neg hr] at h; simp at h
end Go.Proofs.YtpnmajblhgnkoaaGreat.PM
end

section
namespace Go.Proofs.YtpnmajblhgnkoaaGreat.Z
attribute [local go_sem] max2_int min2_int max_two min_two max_three min_three max_four min_four   -- for this text's walks alone
def pack_Text.f (k : Nat) (a0 : ByteArray) : Option (ByteArray × Int) := (pack_Number.f k (IntKind.u64.wrap ((a0.size : Int))) 2).bind fun bt426 => (if bt426.2 = 0 then (if bt426.1.size + a0.size ≤ 9223372036854775807 then (some (bt426.1 ++ a0, 0)) else (none)) else (some ((⟨#[]⟩ : ByteArray), 2)))
theorem pack_Text.mono : ∀ a0 k, LeO (pack_Text.f k a0) (pack_Text.f (k + 1) a0) := by
 intro a0 k
 unfold pack_Text.f
 repeat' (first | (with_reducible first | exact pack_Number.mono _ _ _ | exact LeO.refl _ | exact LeO.none _ | refine LeO.ite ?_ ?_ | refine LeO.bind ?_ (fun _ => ?_)))
set_option maxHeartbeats 64000000 in
set_option maxRecDepth 100000 in
theorem pack_Text.calls (k : Nat) (a0 : ByteArray) (r1 : ByteArray) (r2 : Int) (w : World) (h : pack_Text.f k a0 = some (r1, r2)) :
  Calls Tryz.prog 52 #[.string a0] w fun e w' => e = .returned (.tuple #[.string r1, .int .i64 r2]) ∧ Below w.heap.size w w' := by
 have HB := ak_ (Below.refl w.heap.size w)
 have H : ((pack_Number.f k (IntKind.u64.wrap ((a0.size : Int))) 2).bind fun bt426 => (if bt426.2 = 0 then (if bt426.1.size + a0.size ≤ 9223372036854775807 then (some (bt426.1 ++ a0, 0)) else (none)) else (some ((⟨#[]⟩ : ByteArray), 2)))) = some (r1, r2) := h
 clear h
 replace H := Option.bind_eq_some_iff.mp H
 obtain ⟨⟨t426, t427⟩, A20, H⟩ := H
 try dsimp only at H
 have A2 := ak_ A20
 clear A20
 refine Or.elim (Classical.em (t427 = 0)) (fun c3 => ?p1_) (fun c3 => ?n1_)
 case' p1_ =>
  rw [if_pos c3] at H
  have c3b0 : (t427 == 0) = true := beq_iff_eq.mpr c3
  have c3b1 : (t427 != 0) = false := bne_eq_false_iff_eq.mpr c3
  clear c3
  refine Or.elim (Classical.em (t426.size + a0.size ≤ 9223372036854775807)) (fun c4 => ?p2_) (fun c4 => ?n2_)
  case' p2_ =>
   rw [if_pos c4] at H
   have c4b0 := eq_true c4
   have c4b1 : decide (t426.size + a0.size ≤ 9223372036854775807) = true := decide_eq_true c4
   try have c4b2 : (9223372036854775807 < t426.size + a0.size) = False := eq_false (Nat.not_lt.2 c4)
   simp only [Option.some.injEq, Prod.mk.injEq] at H
   obtain ⟨rfl, rfl⟩ := H
   refine ?z1_
  case n2_ =>
   rw [if_neg c4] at H
   exact absurd H (by simp)
 case' n1_ =>
  rw [if_neg c3] at H
  have c3b0 : (t427 == 0) = false := beq_eq_false_iff_ne.mpr c3
  have c3b1 : (t427 != 0) = true := bne_iff_ne.mpr c3
  simp only [Option.some.injEq, Prod.mk.injEq] at H
  obtain ⟨rfl, rfl⟩ := H
  refine ?z2_
 case p1_ | n1_ =>
  go_enter Tryz.func52, Tryz.ntmps52
  go_wp2_with (first | ((with_reducible refine gate_callee (f := 71) rfl ?_); refine goesL_ (some 10) rfl rfl Tryz.func71 (by kernel_rfl) rfl #[.int .u64 (IntKind.u64.wrap ((a0.size : Int))), .int .i64 2] rfl (by (try simp only [List.map_toArray, List.map_cons, List.map_nil]); first | done | rfl | (rw [show IntKind.u64.wrap ((a0.size : Int)) = ((a0.size : Int)) from IntWalk.u64_in _ (by simp only [decide_eq_false_iff_not, decide_eq_true_eq] at *; omega)]; rfl) | (simp only [List.length_drop, List.length_take]; rfl)) ?_; (with_reducible refine (pack_Number.calls k (IntKind.u64.wrap ((a0.size : Int))) 2 t426 t427 _ A2.out).mono ?_); rintro e w901 ⟨rfl, hb⟩; refine ⟨_, rfl, ?_⟩; replace HB := hb_ hb; (try clear hb)))
  go_ret2
  exact ⟨by first | rfl | (simp [errW_none, errW_some] <;> rfl) | (simp [*, errW_none, errW_some] <;> rfl), bel_⟩
def inode_Encode.f (k : Nat) (a0_0 : Int) (a0_1 : Int) (a0_2 : Int) (a0_3 : Int) (a0_4 : ByteArray) : Option (ByteArray × Int) := (inode_Check.f a0_0 a0_1 a0_2 a0_3 a0_4).bind fun t429 => (if t429 = 0 then ((pack_Text.f k a0_4).bind fun bt430 => ((inode_number.f k (IntKind.u64.wrap (a0_0)) 1).bind fun t432 => ((inode_number.f k (IntKind.u64.wrap (a0_1)) 2).bind fun t433 => (if t432.size + t433.size ≤ 9223372036854775807 then ((inode_number.f k (IntKind.u64.wrap (a0_2)) 4).bind fun t434 => (if (t432 ++ t433).size + t434.size ≤ 9223372036854775807 then ((inode_number.f k (IntKind.u64.wrap (a0_3)) 4).bind fun t435 => (if ((t432 ++ t433) ++ t434).size + t435.size ≤ 9223372036854775807 then (if (((t432 ++ t433) ++ t434) ++ t435).size + bt430.1.size ≤ 9223372036854775807 then (some ((((t432 ++ t433) ++ t434) ++ t435) ++ bt430.1, 0)) else (none)) else (none))) else (none))) else (none))))) else (some ((⟨#[]⟩ : ByteArray), t429)))
theorem inode_Encode.mono : ∀ a0 a1 a2 a3 a4 k, LeO (inode_Encode.f k a0 a1 a2 a3 a4) (inode_Encode.f (k + 1) a0 a1 a2 a3 a4) := by
 intro a0 a1 a2 a3 a4 k
 unfold inode_Encode.f
 repeat' (first | (with_reducible first | exact inode_number.mono _ _ _ | exact pack_Text.mono _ _ | exact LeO.refl _ | exact LeO.none _ | refine LeO.ite ?_ ?_ | refine LeO.bind ?_ (fun _ => ?_)))
def inode_Encode.T5 : Bool × List (List Nat × List Nat) := (true, [([], []), ([0], [0]), ([1], [1]), ([2], [2]), ([], []), ([4], [4]), ([5], [5]), ([6, 3], [6]), ([3, 7], [3, 7]), ([], []), ([9], [9]), ([10], [10]), ([11, 7], [11]), ([8, 12], [8, 12]), ([], []), ([14], [14]), ([15], [15]), ([16, 12], [16]), ([13, 17], [13, 17]), ([], []), ([18, 19], [18, 19]), ([20, 17, 0, 1, 2, 3, 4, 5, 6, 7, 8, 9, 10, 11, 12, 13, 14, 15, 16, 17, 18, 19, 20], [20]), ([21, 0, 1, 2, 3, 4, 5, 6, 7, 8, 9, 10, 11, 12, 13, 14, 15, 16, 17, 18, 19, 20, 21], [])])
def inode_Encode.B5 : List Nat := [0, 1, 3, 7, 0, 16, 48, 127, 255, 0, 512, 1536, 3839, 8191, 0, 16384, 49152, 122623, 262143, 0, 1048575, 2097151, 4194303]
theorem inode_Encode.tab5 : rtab .any (opsOf Tryz.f33 5) = inode_Encode.T5 := by kernel_rfl
theorem inode_Encode.bits5 : waitsOk inode_Encode.T5.2 inode_Encode.B5 = true := by kernel_rfl
set_option maxHeartbeats 8000000 in
set_option maxRecDepth 100000 in
theorem inode_Encode.calls (k : Nat) (a0_0 : Int) (a0_1 : Int) (a0_2 : Int) (a0_3 : Int) (a0_4 : ByteArray) (r1 : ByteArray) (r2 : Int) (w : World) (h : inode_Encode.f k a0_0 a0_1 a0_2 a0_3 a0_4 = some (r1, r2)) :
  Calls Tryz.prog 33 #[.agg #[.int .u8 a0_0, .int .u16 a0_1, .int .u32 a0_2, .int .u32 a0_3, .string a0_4]] w fun e w' => e = .returned (.tuple #[.string r1, .int .i64 r2]) ∧ Below w.heap.size w w' := by
 have hu31 := Tryz.underlying31
 have HB := ak_ (Below.refl w.heap.size w)
 have H : ((inode_Check.f a0_0 a0_1 a0_2 a0_3 a0_4).bind fun t429 => (if t429 = 0 then ((pack_Text.f k a0_4).bind fun bt430 => ((inode_number.f k (IntKind.u64.wrap (a0_0)) 1).bind fun t432 => ((inode_number.f k (IntKind.u64.wrap (a0_1)) 2).bind fun t433 => (if t432.size + t433.size ≤ 9223372036854775807 then ((inode_number.f k (IntKind.u64.wrap (a0_2)) 4).bind fun t434 => (if (t432 ++ t433).size + t434.size ≤ 9223372036854775807 then ((inode_number.f k (IntKind.u64.wrap (a0_3)) 4).bind fun t435 => (if ((t432 ++ t433) ++ t434).size + t435.size ≤ 9223372036854775807 then (if (((t432 ++ t433) ++ t434) ++ t435).size + bt430.1.size ≤ 9223372036854775807 then (some ((((t432 ++ t433) ++ t434) ++ t435) ++ bt430.1, 0)) else (none)) else (none))) else (none))) else (none))))) else (some ((⟨#[]⟩ : ByteArray), t429)))) = some (r1, r2) := h
 clear h
 replace H := Option.bind_eq_some_iff.mp H
 obtain ⟨t429, A20, H⟩ := H
 try dsimp only at H
 have A2 := ak_ A20
 clear A20
 by_cases c3 : t429 = 0
 ·rw [if_pos c3] at H
  have c3b0 : (t429 == 0) = true := beq_iff_eq.mpr c3
  have c3b1 : (t429 != 0) = false := bne_eq_false_iff_eq.mpr c3
  clear c3
  replace H := Option.bind_eq_some_iff.mp H
  obtain ⟨⟨t430, t431⟩, A40, H⟩ := H
  try dsimp only at H
  have A4 := ak_ A40
  clear A40
  replace H := Option.bind_eq_some_iff.mp H
  obtain ⟨t432, A50, H⟩ := H
  try dsimp only at H
  have A5 := ak_ A50
  clear A50
  replace H := Option.bind_eq_some_iff.mp H
  obtain ⟨t433, A60, H⟩ := H
  try dsimp only at H
  have A6 := ak_ A60
  clear A60
  by_cases c7 : t432.size + t433.size ≤ 9223372036854775807
  ·rw [if_pos c7] at H
   have c7b0 := eq_true c7
   have c7b1 : decide (t432.size + t433.size ≤ 9223372036854775807) = true := decide_eq_true c7
   try have c7b2 : (9223372036854775807 < t432.size + t433.size) = False := eq_false (Nat.not_lt.2 c7)
   replace H := Option.bind_eq_some_iff.mp H
   obtain ⟨t434, A80, H⟩ := H
   try dsimp only at H
   have A8 := ak_ A80
   clear A80
   by_cases c9 : (t432 ++ t433).size + t434.size ≤ 9223372036854775807
   ·rw [if_pos c9] at H
    have c9b0 := eq_true c9
    have c9b1 : decide ((t432 ++ t433).size + t434.size ≤ 9223372036854775807) = true := decide_eq_true c9
    have c9b1x := c9b1
    (try simp only [ByteArray.size_append, Int.natCast_add] at c9b1x)
    try have c9b2 : (9223372036854775807 < (t432 ++ t433).size + t434.size) = False := eq_false (Nat.not_lt.2 c9)
    try have c9b2x := c9b2
    (try simp only [ByteArray.size_append, Int.natCast_add] at c9b2x)
    replace H := Option.bind_eq_some_iff.mp H
    obtain ⟨t435, A100, H⟩ := H
    try dsimp only at H
    have A10 := ak_ A100
    clear A100
    by_cases c11 : ((t432 ++ t433) ++ t434).size + t435.size ≤ 9223372036854775807
    ·rw [if_pos c11] at H
     have c11b0 := eq_true c11
     have c11b1 : decide (((t432 ++ t433) ++ t434).size + t435.size ≤ 9223372036854775807) = true := decide_eq_true c11
     have c11b1x := c11b1
     (try simp only [ByteArray.size_append, Int.natCast_add] at c11b1x)
     try have c11b2 : (9223372036854775807 < ((t432 ++ t433) ++ t434).size + t435.size) = False := eq_false (Nat.not_lt.2 c11)
     try have c11b2x := c11b2
     (try simp only [ByteArray.size_append, Int.natCast_add] at c11b2x)
     by_cases c12 : (((t432 ++ t433) ++ t434) ++ t435).size + t430.size ≤ 9223372036854775807
     ·rw [if_pos c12] at H
      have c12b0 := eq_true c12
      have c12b1 : decide ((((t432 ++ t433) ++ t434) ++ t435).size + t430.size ≤ 9223372036854775807) = true := decide_eq_true c12
      have c12b1x := c12b1
      (try simp only [ByteArray.size_append, Int.natCast_add] at c12b1x)
      try have c12b2 : (9223372036854775807 < (((t432 ++ t433) ++ t434) ++ t435).size + t430.size) = False := eq_false (Nat.not_lt.2 c12)
      try have c12b2x := c12b2
      (try simp only [ByteArray.size_append, Int.natCast_add] at c12b2x)
      simp only [Option.some.injEq, Prod.mk.injEq] at H
      obtain ⟨rfl, rfl⟩ := H
      go_enter Tryz.func33, Tryz.ntmps33
      try go_wp2_with (first | ((with_reducible refine gate_dst (N := 1) rfl ?_); refine bx_ (N := 1) (cs := #[.int .u8 a0_0, .int .u16 a0_1, .int .u32 a0_2, .int .u32 a0_3, .string a0_4]) (t := 31) ?_; intro gb428 hg w13 hbox hb; have BK428 := ak_ (hbox); have GW428 := ge_ hg; have GE428 := ge_ hg; replace HB := hb_ hb; clear hb hbox hg; obtain ⟨hcz14_0, hcz14_1, hcz14_2, hcz14_3, hcz14_4⟩ := cl5_ BK428; obtain ⟨hfz14_0, hfz14_1, hfz14_2, hfz14_3, hfz14_4⟩ := fz5_ BK428) | ((with_reducible refine gate_callee (f := 51) rfl ?_); refine gl_ (some 8) Tryz.func51 #[.agg #[.int .u8 a0_0, .int .u16 a0_1, .int .u32 a0_2, .int .u32 a0_3, .string a0_4]] ?_; (with_reducible refine (inode_Check.calls a0_0 a0_1 a0_2 a0_3 a0_4 t429 _ A2.out).mono ?_); rintro e w15 ⟨rfl, hb⟩; refine ⟨_, rfl, ?_⟩; replace BK428 := kb_ BK428 hb; replace HB := hb_ hb; (try clear hb); obtain ⟨hcz16_0, hcz16_1, hcz16_2, hcz16_3, hcz16_4⟩ := cl5_ BK428; obtain ⟨hfz16_0, hfz16_1, hfz16_2, hfz16_3, hfz16_4⟩ := fz5_ BK428) | ((with_reducible refine gate_callee (f := 52) rfl ?_); refine gl_ (some 15) Tryz.func52 #[.string a0_4] ?_; (with_reducible refine (pack_Text.calls k a0_4 t430 t431 _ A4.out).mono ?_); rintro e w17 ⟨rfl, hb⟩; refine ⟨_, rfl, ?_⟩; replace BK428 := kb_ BK428 hb; replace HB := hb_ hb; (try clear hb)))
      replace BK428 := ak_ (blk_drew BK428.out)
      replace HB := ak_ (below_drew1 HB.out)
      refine start_ (n := 23) (S := fun w' => w'.cell? ⟨gb428, 0, none⟩ = some (.int .u8 a0_0) ∧ w'.cell? ⟨gb428, 1, none⟩ = some (.int .u16 a0_1) ∧ w'.cell? ⟨gb428, 2, none⟩ = some (.int .u32 a0_2) ∧ w'.cell? ⟨gb428, 3, none⟩ = some (.int .u32 a0_3) ∧ w'.cell? ⟨gb428, 4, none⟩ = some (.string a0_4)) (ds := []) #[false, false, false, false, false, false, false, false, false, false, false, false, false, false, false, false, false, false, false, false, false, false, false] (by kernel_rfl) rfl rfl hc_ (fun hHeld => ?_); refine with_tabW inode_Encode.tab5 inode_Encode.bits5 (fun HT_ HW_ => ?_)
      generalize w17.drew = w18 at BK428 HB hHeld ⊢
      refine pu_ 0 18 ?_
      refine pu_ 4 22 ?_
      refine pu_ 9 27 ?_
      refine pu_ 14 32 ?_
      refine pu_ 19 37 ?_
      refine tk5_ 1 19 ?_
      refine pu_ 2 20 ?_
      refine tk5_ 5 23 ?_
      refine pu_ 6 24 ?_
      refine tk5_ 10 28 ?_
      refine pu_ 11 29 ?_
      refine tk5_ 15 33 ?_
      refine pu_ 16 34 ?_
      refine on_ 3 21 (fun K hK => ?_)
      refine goes_ Tryz.func50 (by kernel_rfl) rfl #[.int .u64 (IntKind.u64.wrap (a0_0)), .int .i64 1] (by rfl) rfl rfl (by (try simp only [List.map_toArray, List.map_cons, List.map_nil]); first | done | rfl | (simp only [List.length_drop, List.length_take]; rfl)) ?_
      with_reducible refine (inode_number.calls k (IntKind.u64.wrap (a0_0)) 1 t432 _ A5.out).mono ?_
      rintro e w19 ⟨rfl, hb⟩
      refine ⟨_, rfl, ?_⟩
      replace BK428 := kb_ BK428 hb
      replace HB := hb_ hb
      (try clear hb)
      (try clear hb2)
      (try clear hk)
      (try clear hi)
      refine hK.out _ _ hc_ (fun hHeld => ?_)
      clear hK K
      refine nm_ 21 ?_
      refine on_ 7 25 (fun K hK => ?_)
      refine goes_ Tryz.func50 (by kernel_rfl) rfl #[.int .u64 (IntKind.u64.wrap (a0_1)), .int .i64 2] (by rfl) rfl rfl (by (try simp only [List.map_toArray, List.map_cons, List.map_nil]); first | done | rfl | (simp only [List.length_drop, List.length_take]; rfl)) ?_
      with_reducible refine (inode_number.calls k (IntKind.u64.wrap (a0_1)) 2 t433 _ A6.out).mono ?_
      rintro e w20 ⟨rfl, hb⟩
      refine ⟨_, rfl, ?_⟩
      replace BK428 := kb_ BK428 hb
      replace HB := hb_ hb
      (try clear hb)
      (try clear hb2)
      (try clear hk)
      (try clear hi)
      refine hK.out _ _ hc_ (fun hHeld => ?_)
      clear hK K
      refine nm_ 25 ?_
      refine pu_ 8 26 ?_
      refine on_ 12 30 (fun K hK => ?_)
      refine goes_ Tryz.func50 (by kernel_rfl) rfl #[.int .u64 (IntKind.u64.wrap (a0_2)), .int .i64 4] (by rfl) rfl rfl (by (try simp only [List.map_toArray, List.map_cons, List.map_nil]); first | done | rfl | (simp only [List.length_drop, List.length_take]; rfl)) ?_
      with_reducible refine (inode_number.calls k (IntKind.u64.wrap (a0_2)) 4 t434 _ A8.out).mono ?_
      rintro e w21 ⟨rfl, hb⟩
      refine ⟨_, rfl, ?_⟩
      replace BK428 := kb_ BK428 hb
      replace HB := hb_ hb
      (try clear hb)
      (try clear hb2)
      (try clear hk)
      (try clear hi)
      refine hK.out _ _ hc_ (fun hHeld => ?_)
      clear hK K
      refine nm_ 30 ?_
      refine pu_ 13 31 ?_
      refine on_ 17 35 (fun K hK => ?_)
      refine goes_ Tryz.func50 (by kernel_rfl) rfl #[.int .u64 (IntKind.u64.wrap (a0_3)), .int .i64 4] (by rfl) rfl rfl (by (try simp only [List.map_toArray, List.map_cons, List.map_nil]); first | done | rfl | (simp only [List.length_drop, List.length_take]; rfl)) ?_
      with_reducible refine (inode_number.calls k (IntKind.u64.wrap (a0_3)) 4 t435 _ A10.out).mono ?_
      rintro e w22 ⟨rfl, hb⟩
      refine ⟨_, rfl, ?_⟩
      replace BK428 := kb_ BK428 hb
      replace HB := hb_ hb
      (try clear hb)
      (try clear hb2)
      (try clear hk)
      (try clear hi)
      refine hK.out _ _ hc_ (fun hHeld => ?_)
      clear hK K
      refine nm_ 35 ?_
      refine pu_ 18 36 ?_
      refine pu_ 20 38 ?_
      refine pu_ 21 2 ?_
      refine pu_ 22 3 ?_
      refine done_ (done_of HT_.out (by kernel_rfl)) ?_
      try go_wp2
      go_ret2
      exact ⟨by first | rfl | (simp [errW_none, errW_some] <;> rfl) | (simp [*, errW_none, errW_some] <;> rfl), bel_⟩
     rw [if_neg c12] at H
     exact absurd H (by simp)
    rw [if_neg c11] at H
    exact absurd H (by simp)
   rw [if_neg c9] at H
   exact absurd H (by simp)
  rw [if_neg c7] at H
  exact absurd H (by simp)
 rw [if_neg c3] at H
 have c3b0 : (t429 == 0) = false := beq_eq_false_iff_ne.mpr c3
 have c3b1 : (t429 != 0) = true := bne_iff_ne.mpr c3
 simp only [Option.some.injEq, Prod.mk.injEq] at H
 obtain ⟨rfl, rfl⟩ := H
 go_enter Tryz.func33, Tryz.ntmps33
 go_wp2_with (first | ((with_reducible refine gate_dst (N := 1) rfl ?_); refine bx_ (N := 1) (cs := #[.int .u8 a0_0, .int .u16 a0_1, .int .u32 a0_2, .int .u32 a0_3, .string a0_4]) (t := 31) ?_; intro gb428 hg w23 hbox hb; have BK428 := ak_ (hbox); have GW428 := ge_ hg; have GE428 := ge_ hg; replace HB := hb_ hb; clear hb hbox hg; obtain ⟨hcz24_0, hcz24_1, hcz24_2, hcz24_3, hcz24_4⟩ := cl5_ BK428; obtain ⟨hfz24_0, hfz24_1, hfz24_2, hfz24_3, hfz24_4⟩ := fz5_ BK428) | ((with_reducible refine gate_callee (f := 51) rfl ?_); refine gl_ (some 8) Tryz.func51 #[.agg #[.int .u8 a0_0, .int .u16 a0_1, .int .u32 a0_2, .int .u32 a0_3, .string a0_4]] ?_; (with_reducible refine (inode_Check.calls a0_0 a0_1 a0_2 a0_3 a0_4 t429 _ A2.out).mono ?_); rintro e w25 ⟨rfl, hb⟩; refine ⟨_, rfl, ?_⟩; replace BK428 := kb_ BK428 hb; replace HB := hb_ hb; (try clear hb)))
 go_ret2
 exact ⟨by first | rfl | (simp [errW_none, errW_some] <;> rfl) | (simp [*, errW_none, errW_some] <;> rfl), bel_⟩
end Go.Proofs.YtpnmajblhgnkoaaGreat.Z
end

section
namespace Go.Proofs.YtpnmajblhgnkoaaGreat.Z
open Go.Proofs.YtpnmajblhgnkoaaGreat.PM
theorem bitLenAux_le : ∀ (f m x : Nat), x < 2 ^ m → Lib.bitLenAux f x ≤ m
  | 0, m, x, h => by simp [Lib.bitLenAux]
  | f + 1, m, x, h => by
    unfold Lib.bitLenAux
    by_cases h0 : x = 0
    · rw [if_pos h0]; omega
    · rw [if_neg h0]
      match m, h with
      | 0, h => simp at h; omega
      | m + 1, h =>
        have := bitLenAux_le f m (x / 2) (by rw [Nat.pow_succ] at h; omega)
        omega
theorem pow_two (w : Nat) : 256 ^ w = 2 ^ (8 * w) := by rw [Nat.pow_mul]
theorem nums_be : ∀ (l : List UInt8), strOfNums (l.map (fun b => (b.toNat : Int))) = ba l := by
  intro l
  unfold strOfNums ba
  rw [List.map_map]
  congr 2
  conv => rhs; rw [← List.map_id l]
  apply List.map_congr_left
  intro b _
  simp
def beI (w n : Nat) : List Int := (be w n).map (fun b => (b.toNat : Int))
theorem set_mid (a b : List Int) (x v : Int) {n : Nat} (h : a.length = n) : (a ++ x :: b).set n v = a ++ v :: b := by subst h; simp
theorem pow_cast (m : Nat) : ((2 : Int) ^ m) = ((2 ^ m : Nat) : Int) := by simp
theorem u64w {x : Int} (h0 : 0 ≤ x) (h1 : x < 18446744073709551616) : IntKind.u64.wrap x = x := IntWalk.u64_in x ⟨h0, by omega⟩
theorem number_l0 (n w : Nat) (hw : w ≤ 8) : ∀ d i : Nat, w = i + d →
    Ev (fun k => pack_Number.l0 k (n : Int) (w : Int) (List.replicate d 0 ++ beI i n) (w : Int) (i : Int)) (ba (be w n), 0)
  | 0, i, hi => by
    refine Ev.step (fun k => by rw [pack_Number.l0]) ?_
    refine Ev.ifn (by omega) (Ev.const ?_)
    obtain rfl : w = i := by omega
    rw [List.replicate_zero, List.nil_append]
    unfold beI
    rw [nums_be]
  | d + 1, i, hi => by
    refine Ev.step (fun k => by rw [pack_Number.l0]) ?_
    have e1 : wrap64 (8 * (i : Int)) = ((8 * i : Nat) : Int) := by rw [w64 (by omega) (by omega)]; omega
    have e2 : wrap64 (wrap64 ((w : Int) - 1) - (i : Int)) = (d : Int) := by rw [w64 (i := (w : Int) - 1) (by omega) (by omega), w64 (by omega) (by omega)]; omega
    have e3 : wrap64 ((i : Int) + 1) = ((i + 1 : Nat) : Int) := by rw [w64 (by omega) (by omega)]; omega
    have hl : (List.replicate (d + 1) (0 : Int) ++ beI i n).length = w := by unfold beI; rw [List.length_append, List.length_replicate, List.length_map, be_len]; omega
    rw [e1, e2, e3]
    refine Ev.ifp (by omega) (Ev.ifp (by omega) (Ev.ifp (by omega) (Ev.ifp (by rw [hl]; omega) ?_)))
    refine Ev.congr (fun k => ?_) (number_l0 n w hw d (i + 1) (by omega))
    have e4 : shr .u64 (n : Int) ((8 * i : Nat) : Int) % 256 = ((n / 256 ^ i % 256 : Nat) : Int) := by
      unfold shr
      rw [Int.toNat_natCast, show IntKind.u64.bits = 64 from rfl, Nat.min_eq_left (by omega), pow_cast, pow_two]
      simp
    have e5 : (List.replicate (d + 1) (0 : Int) ++ beI i n).set ((d : Int)).toNat (((n / 256 ^ i % 256 : Nat) : Int)) = List.replicate d 0 ++ beI (i + 1) n := by
      rw [Int.toNat_natCast, List.replicate_succ', List.append_assoc, List.singleton_append, set_mid _ _ _ _ (by simp)]
      congr 1
      unfold beI
      rw [be_cons, List.map_cons, ofNat_toNat]
    rw [e4, e5]
theorem number_f (n w : Nat) (h1 : 1 ≤ w) (h8 : w ≤ 8) (hn : n < 256 ^ w) : Ev (fun k => pack_Number.f k (n : Int) (w : Int)) (ba (be w n), 0) := by
  unfold pack_Number.f
  have hp : 256 ^ w ≤ 256 ^ 8 := Nat.pow_le_pow_right (by decide) h8
  have hn8 : n < 18446744073709551616 := by have : 256 ^ 8 = 18446744073709551616 := rfl; omega
  have hb : bits_Len64.f (n : Int) = some ((Lib.bitLen n : Nat) : Int) := by
    unfold bits_Len64.f
    rw [if_pos ⟨by omega, by omega⟩, Int.toNat_natCast]
  have hl : Lib.bitLen n ≤ 8 * w := bitLenAux_le 64 (8 * w) n (by rw [← pow_two]; exact hn)
  refine Ev.ifn (by omega) (Ev.ifn (by omega) (Ev.bindc hb ?_))
  have e : decide (((Lib.bitLen n : Nat) : Int) > wrap64 (8 * (w : Int))) = false := by
    rw [w64 (by omega) (by omega)]; simp; omega
  rw [e]
  refine Ev.step (fun k => by rw [pack_Number.j0]) ?_
  refine Ev.ifn (by decide) (Ev.ifp (by omega) (Ev.ifp (by rw [Int.toNat_natCast]; omega) (Ev.bindc rfl ?_)))
  have h := number_l0 n w h8 w 0 (by omega)
  rw [show beI 0 n = [] from rfl, List.append_nil] at h
  rw [Int.toNat_natCast, List.length_replicate]
  exact h
theorem num_f (n : Int) (w : Nat) (h1 : 1 ≤ w) (h8 : w ≤ 8) (h0 : 0 ≤ n) (hn : n.toNat < 256 ^ w) : Ev (fun k => inode_number.f k (IntKind.u64.wrap n) (w : Int)) (ba (be w n.toNat)) := by
  unfold inode_number.f
  have hp : 256 ^ w ≤ 256 ^ 8 := Nat.pow_le_pow_right (by decide) h8
  have p8 : 256 ^ 8 = 18446744073709551616 := rfl
  rw [u64w h0 (by omega)]
  have e : n = ((n.toNat : Nat) : Int) := by omega
  have h := number_f n.toNat w h1 h8 hn
  rw [← e] at h
  exact Ev.bind h (Ev.const rfl)
def takeS (w : Nat) (l : List UInt8) : Int × List UInt8 × Int := (if l.length < w then 0 else (num (l.take w) : Int), l.drop w, if l.length < w then 3 else 0)
def ba3 (x : Int × List UInt8 × Int) : Int × ByteArray × Int := (x.1, ba x.2.1, x.2.2)
theorem or_num (x : Nat) (b : Int) (hx : x < 72057594037927936) (h0 : 0 ≤ b) (h1 : b < 256) : Go.bits .or .u64 (IntKind.u64.wrap ((x : Int) * 256)) (IntKind.u64.wrap b) = ((x : Nat) : Int) * 256 + b := by
  rw [u64w (by omega) (by omega), u64w (by omega) (by omega)]
  exact bits_join .u64 64 (by decide) (fun n h0 h1 => u64w h0 (by simpa using h1)) 8 _ _ (by omega) (by omega) (by simp; omega) h0 (by simpa using h1) (by simp; omega)
theorem drop_nil_of {l : List UInt8} {w : Nat} (h : l.length < w) : l.drop w = [] := List.drop_eq_nil_of_le (by omega)
theorem take_num_snoc (l : List UInt8) (i : Nat) (h : i < l.length) : num (l.take (i + 1)) = num (l.take i) * 256 + (l[i]).toNat := by
  rw [List.take_succ_eq_append_getElem h, num_snoc]
theorem ext_end (a : ByteArray) (n : Nat) : a.extract n a.size = ba (a.data.toList.drop n) := by
  have hz := size_len a
  rw [Lib.extract_eq, List.take_of_length_le (by rw [List.length_drop]; omega)]
  rfl
theorem ext_front (a : ByteArray) (n : Nat) : a.extract 0 n = ba (a.data.toList.take n) := by
  rw [Lib.extract_eq]
  rfl
theorem tnum_l0 (a : ByteArray) (w : Nat) (hw : w ≤ 8) (hl : w ≤ a.data.toList.length) : ∀ d i : Nat, w = i + d →
    Ev (fun k => pack_TakeNumber.l0 k a (w : Int) (num (a.data.toList.take i) : Int) (w : Int) (i : Int)) ((num (a.data.toList.take w) : Int), ba (a.data.toList.drop w), 0)
  | 0, i, hi => by
    refine Ev.step (fun k => by rw [pack_TakeNumber.l0]) ?_
    have hz := size_len a
    obtain rfl : w = i := by omega
    refine Ev.ifn (by omega) (Ev.ifp (by omega) (Ev.ifp (by omega) (Ev.const ?_)))
    rw [Int.toNat_natCast, ext_end]
  | d + 1, i, hi => by
    refine Ev.step (fun k => by rw [pack_TakeNumber.l0]) ?_
    have hz := size_len a
    have hlt : i < a.data.toList.length := by omega
    have e3 : wrap64 ((i : Int) + 1) = ((i + 1 : Nat) : Int) := by rw [w64 (by omega) (by omega)]; omega
    have hn := num_lt i (a.data.toList.take i) (by rw [List.length_take]; omega)
    have hp : 256 ^ i ≤ 256 ^ 7 := Nat.pow_le_pow_right (by decide) (by omega)
    have p7 : 256 ^ 7 = 72057594037927936 := rfl
    have hb := (a.data.toList[i]).toNat_lt
    refine Ev.ifp (by omega) (Ev.ifp (by omega) (Ev.ifp (by omega) ?_))
    rw [bt_get a i hlt, or_num _ _ (by omega) (by omega) (by omega), e3]
    have ih := tnum_l0 a w hw hl d (i + 1) (by omega)
    rw [take_num_snoc _ _ hlt] at ih
    refine Ev.congr (fun k => ?_) ih
    congr 1
theorem tnum_f (a : ByteArray) (w : Nat) (h1 : 1 ≤ w) (h8 : w ≤ 8) : Ev (fun k => pack_TakeNumber.f k a (w : Int)) (ba3 (takeS w a.data.toList)) := by
  unfold pack_TakeNumber.f
  have hz := size_len a
  refine Ev.ifn (by omega) ?_
  rw [show decide ((w : Int) > 8) = false by simp; omega]
  refine Ev.step (fun k => by rw [pack_TakeNumber.j0]) ?_
  refine Ev.ifn (by decide) ?_
  by_cases h : a.data.toList.length < w
  · refine Ev.ifp (by omega) (Ev.const ?_)
    unfold ba3 takeS
    rw [if_pos h, if_pos h, drop_nil_of h]
    rfl
  · refine Ev.ifn (by omega) ?_
    refine Ev.val (tnum_l0 a w h8 (by omega) w 0 (by omega)) ?_
    unfold ba3 takeS
    rw [if_neg h, if_neg h]
theorem tknum_f (a : ByteArray) (bad : Bool) (w : Nat) (h1 : 1 ≤ w) (h8 : w ≤ 8) :
    Ev (fun k => inode_taker_number.f k a bad (w : Int)) ((takeS w a.data.toList).1, ba (a.data.toList.drop w), bad || decide (a.data.toList.length < w)) := by
  unfold inode_taker_number.f
  refine Ev.bind (tnum_f a w h1 h8) ?_
  unfold ba3 takeS
  cases bad
  · refine Ev.ifn (by decide) (Ev.const ?_)
    by_cases h : a.data.toList.length < w
    · simp only [if_pos h, decide_eq_true h]; rfl
    · simp only [if_neg h, decide_eq_false h]; rfl
  · exact Ev.ifp rfl (Ev.const (by simp))
def textS (l : List UInt8) : List UInt8 × List UInt8 × Int :=
  if l.length < 2 then ([], [], 3) else if (l.drop 2).length < num (l.take 2) then ([], [], 3) else ((l.drop 2).take (num (l.take 2)), (l.drop 2).drop (num (l.take 2)), 0)
theorem ttext_f (a : ByteArray) (hs : a.size ≤ 9223372036854775807) : Ev (fun k => pack_TakeText.f k a) (ba (textS a.data.toList).1, ba (textS a.data.toList).2.1, (textS a.data.toList).2.2) := by
  unfold pack_TakeText.f
  have hz := size_len a
  refine Ev.bind (tnum_f a 2 (by decide) (by decide)) ?_
  unfold ba3 takeS textS
  by_cases h : a.data.toList.length < 2
  · simp only [if_pos h]
    refine Ev.ifn (by decide) (Ev.step (fun k => by rw [pack_TakeText.j0]) ?_)
    exact Ev.ifn (by decide) (Ev.ifn (by decide) (Ev.const rfl))
  · simp only [if_neg h]
    refine Ev.ifp trivial ?_
    have hd : (a.data.toList.drop 2).length = a.data.toList.length - 2 := by simp
    rw [ba_size, u64w (by omega) (by omega)]
    by_cases hn : (a.data.toList.drop 2).length < num (a.data.toList.take 2)
    · rw [show decide (((num (a.data.toList.take 2) : Nat) : Int) > ((a.data.toList.drop 2).length : Int)) = true by simp only [decide_eq_true_eq]; omega, if_pos hn]
      refine Ev.step (fun k => by rw [pack_TakeText.j0]) ?_
      exact Ev.ifp rfl (Ev.const rfl)
    · rw [show decide (((num (a.data.toList.take 2) : Nat) : Int) > ((a.data.toList.drop 2).length : Int)) = false by simp only [decide_eq_false_iff_not]; omega, if_neg hn]
      refine Ev.step (fun k => by rw [pack_TakeText.j0]) ?_
      refine Ev.ifn (by decide) (Ev.ifp rfl (Ev.ifp (by omega) (Ev.ifp (by rw [ba_size]; omega) (Ev.const ?_))))
      rw [Int.toNat_natCast, ext_end, ext_front, ba_data]
theorem text_f (a : ByteArray) (hs : a.size ≤ 65535) : Ev (fun k => pack_Text.f k a) (ba (be 2 a.data.toList.length ++ a.data.toList), 0) := by
  unfold pack_Text.f
  have hz := size_len a
  rw [u64w (by omega) (by omega), hz]
  refine Ev.bind (number_f a.data.toList.length 2 (by decide) (by decide) (by rw [p2]; omega)) (Ev.ifp rfl ?_)
  refine Ev.ifp (by rw [ba_size, be_len]; omega) (Ev.const ?_)
  rw [← ba_app, data_ba]
theorem check_f (k m l s : Int) (a : ByteArray) (hs : 0 ≤ s ∧ s < 4294967296) : inode_Check.f k m l s a = some (if okN k l s a.data.toList = true then 0 else 4) := by
  unfold inode_Check.f okN
  rw [ByteArray.toList_eq]
  have hz := size_len a
  by_cases h1 : k = 1
  · rw [if_pos h1]; subst h1
    by_cases h2 : l = 1 <;> by_cases h3 : s = 0 <;> by_cases h4 : a.data.toList = [] <;> simp [h2, h3, h4]
  · rw [if_neg h1]
    by_cases h2 : k = 2
    · rw [if_pos h2]; subst h2
      by_cases h2 : l > 0 <;> by_cases h3 : s ≤ 65536 <;> by_cases h4 : a.data.toList = [] <;> simp [h2, h3, h4]
    · rw [if_neg h2]
      by_cases h3 : k = 3
      · rw [if_pos h3]; subst h3
        by_cases h4 : l > 0
        · rw [if_pos h4]
          by_cases h5 : a.data.toList = []
          · rw [if_pos h5]; simp [h5]
          · rw [if_neg h5]
            by_cases h6 : (a.size : Int) ≤ 64
            · rw [if_pos h6]
              have hc : strings_Contains.f a ⟨#[0]⟩ = some (decide (0 ∈ a.data.toList)) := by
                unfold strings_Contains.f
                rw [dif_pos (by rfl)]
                have hi := index_mem a.data.toList 0
                exact congrArg some (by rw [Bool.eq_iff_iff]; simpa using hi)
              rw [hc, Option.bind_some, w64 (by omega) (by omega)]
              have h6' : a.data.toList.length ≤ 64 := by omega
              by_cases h7 : 0 ∈ a.data.toList
              · rw [if_pos (by simpa using h7)]; simp [h7]
              · rw [if_neg (by simpa using h7)]
                by_cases h8 : s = (a.size : Int)
                · rw [if_pos h8]
                  have h8' : s = a.data.toList.length := by omega
                  rw [if_pos (by simp only [decide_eq_true_eq]; exact .inr (.inr ⟨trivial, by omega, h5, h6', h7, h8'⟩))]
                · rw [if_neg h8, if_neg (by simp only [decide_eq_true_eq]; rintro (h | h | h); · omega
                                            · omega
                                            · exact h8 (by omega))]
            · rw [if_neg h6, if_neg (by simp only [decide_eq_true_eq]; rintro (h | h | h); · omega
                                        · omega
                                        · exact h6 (by omega))]
        · rw [if_neg h4, if_neg (by simp only [decide_eq_true_eq]; omega)]
      · rw [if_neg h3, if_neg (by simp only [decide_eq_true_eq]; omega)]
theorem okN_size {k l s : Int} {t : List UInt8} (h : okN k l s t = true) : t.length ≤ 64 := by
  unfold okN at h
  rcases of_decide_eq_true h with h | h | h
  · rw [h.2.2.2]; decide
  · rw [h.2.2.2]; decide
  · exact h.2.2.2.1
theorem encode_f (k m l s : Int) (a : ByteArray) (hk : 0 ≤ k ∧ k < 256) (hm : 0 ≤ m ∧ m < 65536) (hl : 0 ≤ l ∧ l < 4294967296) (hs : 0 ≤ s ∧ s < 4294967296) :
    Ev (fun r => inode_Encode.f r k m l s a) (ba (encS k m l s a.data.toList).1, (encS k m l s a.data.toList).2) := by
  unfold inode_Encode.f encS
  have hz := size_len a
  rw [check_f k m l s a hs]
  refine Ev.bindc rfl ?_
  by_cases h : okN k l s a.data.toList = true
  · rw [if_pos h, if_pos h]
    have h64 := okN_size h
    refine Ev.ifp rfl (Ev.bind (text_f a (by omega)) (Ev.bind (num_f k 1 (by decide) (by decide) hk.1 (by rw [p1]; omega)) (Ev.bind (num_f m 2 (by decide) (by decide) hm.1 (by rw [p2]; omega)) ?_)))
    refine Ev.ifp (by simp only [ba_size, be_len]; omega) (Ev.bind (num_f l 4 (by decide) (by decide) hl.1 (by rw [p4]; omega)) ?_)
    refine Ev.ifp (by simp only [ba_app, ba_size, List.length_append, be_len]; omega) (Ev.bind (num_f s 4 (by decide) (by decide) hs.1 (by rw [p4]; omega)) ?_)
    refine Ev.ifp (by simp only [ba_app, ba_size, List.length_append, be_len]; omega) (Ev.ifp (by simp only [ba_app, ba_size, List.length_append, be_len]; omega) (Ev.const ?_))
    unfold enc
    simp only [ba_app, List.append_assoc]
  · rw [if_neg h, if_neg h]
    exact Ev.ifn (by decide) (Ev.const rfl)
def baI (x : Ino) : Int × Int × Int × Int × ByteArray × Int := (x.1, x.2.1, x.2.2.1, x.2.2.2.1, ba x.2.2.2.2.1, x.2.2.2.2.2)
theorem u16w {x : Int} (h0 : 0 ≤ x) (h1 : x < 65536) : IntKind.u16.wrap x = x := by
  simp only [IntKind.wrap, IntKind.bits, IntKind.signed]
  simp
  omega
theorem decode_f (a : ByteArray) (hs : a.size ≤ 9223372036854775807) : Ev (fun r => inode_Decode.f r a) (baI (decS a.data.toList)) := by
  unfold inode_Decode.f
  have hz := size_len a
  have d1 : (ba (a.data.toList.drop 1)).data.toList = a.data.toList.drop 1 := ba_data _
  have d2 : (ba ((a.data.toList.drop 1).drop 2)).data.toList = d3 a.data.toList := ba_data _
  have d4 : (ba ((d3 a.data.toList).drop 4)).data.toList = d7 a.data.toList := ba_data _
  have d5 : (ba ((d7 a.data.toList).drop 4)).data.toList = d11 a.data.toList := ba_data _
  have t1 := tknum_f a false 1 (by decide) (by decide)
  have t2 := fun b => tknum_f (ba (a.data.toList.drop 1)) b 2 (by decide) (by decide)
  rw [d1] at t2
  have t3 := fun b => tknum_f (ba ((a.data.toList.drop 1).drop 2)) b 4 (by decide) (by decide)
  rw [d2] at t3
  have t4 := fun b => tknum_f (ba ((d3 a.data.toList).drop 4)) b 4 (by decide) (by decide)
  rw [d4] at t4
  have hd11 : (d11 a.data.toList).length = a.data.toList.length - 11 := by unfold d11 d7 d3; simp only [List.length_drop]; omega
  have hd7 : (d7 a.data.toList).length = a.data.toList.length - 7 := by unfold d7 d3; simp only [List.length_drop]; omega
  have hd3 : (d3 a.data.toList).length = a.data.toList.length - 3 := by unfold d3; simp only [List.length_drop]; omega
  have hd1 : (a.data.toList.drop 1).length = a.data.toList.length - 1 := by simp
  have t5 := ttext_f (ba ((d7 a.data.toList).drop 4)) (by rw [ba_size]; show (d11 a.data.toList).length ≤ _; omega)
  rw [d5] at t5
  refine Ev.bind t1 (Ev.bind (t2 _) (Ev.bind (t3 _) (Ev.bind (t4 _) ?_)))
  unfold inode_taker_text.f
  have bad : (((false || decide (a.data.toList.length < 1)) || decide ((a.data.toList.drop 1).length < 2)) || decide ((d3 a.data.toList).length < 4) || decide ((d7 a.data.toList).length < 4)) = decide (a.data.toList.length < 11) := by
    rw [Bool.eq_iff_iff]
    simp only [Bool.false_or, Bool.or_eq_true, decide_eq_true_eq, hd7, hd3, hd1]
    omega
  simp only [bad]
  have none_ : ¬ (whole a.data.toList ∧ okN (f1 a.data.toList) (f3 a.data.toList) (f4 a.data.toList) (d13 a.data.toList) = true) → baI (decS a.data.toList) = (0, 0, 0, 0, ⟨#[]⟩, 4) := by
    intro h
    unfold decS
    rw [if_neg h]
    rfl
  by_cases h11 : a.data.toList.length < 11
  · have hn := none_ (fun h => by have := h.1.1; omega)
    rw [hn]
    rw [show decide (a.data.toList.length < 11) = true by simpa using h11]
    refine Ev.bind (Ev.bind t5 (Ev.ifp rfl (Ev.const rfl))) (Ev.ifp rfl (Ev.const rfl))
  · rw [show decide (a.data.toList.length < 11) = false by simpa using h11]
    refine Ev.bind (Ev.bind t5 (Ev.ifn (by decide) (Ev.const rfl))) ?_
    unfold textS
    by_cases h2 : (d11 a.data.toList).length < 2
    · simp only [if_pos h2]
      have hn := none_ (fun h => by have := h.1.1; omega)
      rw [hn]
      exact Ev.ifp rfl (Ev.const rfl)
    · simp only [if_neg h2]
      by_cases hn : ((d11 a.data.toList).drop 2).length < num ((d11 a.data.toList).take 2)
      · simp only [if_pos hn]
        have hn := none_ (fun h => by have := h.1.2; rw [List.length_drop] at hn; omega)
        rw [hn]
        exact Ev.ifp rfl (Ev.const rfl)
      · simp only [if_neg hn]
        refine Ev.ifn (by decide) ?_
        rw [ba_toList]
        by_cases hr : ((d11 a.data.toList).drop 2).drop (num ((d11 a.data.toList).take 2)) = []
        · refine Ev.ifp hr ?_
          have hlen : ((d11 a.data.toList).drop 2).length = num ((d11 a.data.toList).take 2) := by
            have := congrArg List.length hr
            rw [List.length_drop] at this
            simp at this hn
            simp
            omega
          have hw : whole a.data.toList := by
            refine ⟨by omega, ?_⟩
            rw [List.length_drop] at hlen
            omega
          have ht : ((d11 a.data.toList).drop 2).take (num ((d11 a.data.toList).take 2)) = d13 a.data.toList := by
            rw [← hlen, List.take_length]; rfl
          obtain ⟨r1, r2, r3, r4⟩ := f_range _ hw
          have e1 : (takeS 1 a.data.toList).1 = f1 a.data.toList := by unfold takeS; rw [if_neg (by omega)]; rfl
          have e2 : (takeS 2 (a.data.toList.drop 1)).1 = f2 a.data.toList := by unfold takeS; rw [if_neg (by omega)]; rfl
          have e3 : (takeS 4 (d3 a.data.toList)).1 = f3 a.data.toList := by unfold takeS; rw [if_neg (by omega)]; rfl
          have e4 : (takeS 4 (d7 a.data.toList)).1 = f4 a.data.toList := by unfold takeS; rw [if_neg (by omega)]; rfl
          rw [e1, e2, e3, e4, ht, u16w r2.1 r2.2, Int.emod_eq_of_lt r1.1 r1.2, Int.emod_eq_of_lt r3.1 r3.2, Int.emod_eq_of_lt r4.1 r4.2]
          refine Ev.bindc (check_f _ _ _ _ _ r4) ?_
          rw [ba_data]
          by_cases hok : okN (f1 a.data.toList) (f3 a.data.toList) (f4 a.data.toList) (d13 a.data.toList) = true
          · rw [if_pos hok]
            refine Ev.ifp rfl (Ev.const ?_)
            unfold decS
            rw [if_pos ⟨hw, hok⟩]
            rfl
          · rw [if_neg hok, none_ (fun h => hok h.2)]
            exact Ev.ifn (by decide) (Ev.const rfl)
        · rw [none_ (fun h => hr (List.drop_eq_nil_of_le (by have := h.1.2; rw [List.length_drop]; omega)))]
          exact Ev.ifn hr (Ev.const rfl)
end Go.Proofs.YtpnmajblhgnkoaaGreat.Z
end

section
namespace Go.Proofs.YtpnmajblhgnkoaaGreat.Z
open Go.Proofs.YtpnmajblhgnkoaaGreat.PM
theorem right_jt (x3 : Bool) (x8 : Int) (y0 y1 : Int) (a : ByteArray) (c : Int) : Ev (fun r => inode_right.j0 r x3 x8 true y0 y1 a c) (x3 && (nameL a.data.toList && c == 0)) := by
  refine Ev.step (fun k => by rw [inode_right.j0]) ?_
  refine Ev.ifp rfl ?_
  cases x3
  · exact Ev.ifn (by decide) (Ev.const rfl)
  · refine Ev.ifp rfl (Ev.bindc (name_f a) ?_)
    by_cases hn : nameL a.data.toList = true
    · exact Ev.ifp hn (Ev.const (by simp [hn]))
    · exact Ev.ifn hn (Ev.const (by simp [hn]))
theorem right_j3 (x3 : Bool) (y0 y1 : Int) (a : ByteArray) (c : Int) : Ev (fun r => inode_right.j0 r x3 3 false y0 y1 a c) (x3 && (decide (a.data.toList = []) && decide (c < 512))) := by
  refine Ev.step (fun k => by rw [inode_right.j0]) ?_
  refine Ev.ifn (by decide) (Ev.ifp rfl ?_)
  cases x3
  · exact Ev.ifn (by decide) (Ev.const rfl)
  · refine Ev.ifp rfl ?_
    rw [ByteArray.toList_eq]
    by_cases hn : a.data.toList = []
    · exact Ev.ifp hn (Ev.const (by simp [hn]))
    · exact Ev.ifn hn (Ev.const (by simp [hn]))
theorem right_jn (x3 : Bool) (x8 : Int) (h8 : ¬ x8 = 3) (y0 y1 : Int) (a : ByteArray) (c : Int) : Ev (fun r => inode_right.j0 r x3 x8 false y0 y1 a c) false := by
  refine Ev.step (fun k => by rw [inode_right.j0]) ?_
  exact Ev.ifn (by decide) (Ev.ifn h8 (Ev.const rfl))
theorem right_f (k i : Int) (a : ByteArray) (c : Int) : Ev (fun r => inode_right.f r k i a c) (rightK k i a.data.toList c) := by
  unfold inode_right.f
  have key : ∀ b : Bool, (b = true ↔ (0 < i ∧ (k = 1 ∧ a.data.toList = [] ∧ c = 0 ∨ (k = 2 ∨ k = 4) ∧ nameL a.data.toList = true ∧ c = 0 ∨ k = 3 ∧ a.data.toList = [] ∧ c < 512))) → b = rightK k i a.data.toList c := fun b h => by
    unfold rightK
    rw [Bool.eq_iff_iff, h, decide_eq_true_eq]
  by_cases h1 : k = 1
  · refine Ev.ifp h1 ?_
    subst h1
    by_cases hi : i > 0
    · refine Ev.ifp hi ?_
      rw [ByteArray.toList_eq]
      by_cases hn : a.data.toList = []
      · refine Ev.ifp hn (Ev.const (congrArg some (key _ ?_)))
        rw [beq_iff_eq]
        exact ⟨fun h => ⟨hi, .inl ⟨rfl, hn, h⟩⟩, fun h => by omega⟩
      · refine Ev.ifn hn (Ev.const (congrArg some (key _ ?_)))
        refine ⟨fun h => absurd h (by decide), fun h => ?_⟩
        rcases h.2 with h | h | h
        · exact absurd h.2.1 hn
        · omega
        · omega
    · refine Ev.ifn hi (Ev.const (congrArg some (key _ ?_)))
      exact ⟨fun h => absurd h (by decide), fun h => absurd h.1 hi⟩
  · refine Ev.ifn h1 ?_
    by_cases h2 : k = 2
    · refine Ev.ifp h2 ?_
      subst h2
      refine Ev.val (right_jt _ _ _ _ _ _) (key _ ?_)
      simp only [decide_eq_true_eq, Bool.and_eq_true, beq_iff_eq]
      refine ⟨fun h => ⟨h.1, .inr (.inl ⟨.inl trivial, h.2.1, h.2.2⟩)⟩, fun h => ⟨h.1, ?_⟩⟩
      rcases h.2 with h | h | h
      · omega
      · exact h.2
      · omega
    · refine Ev.ifn h2 ?_
      by_cases h4 : k = 4
      · subst h4
        refine Ev.val (right_jt _ _ _ _ _ _) (key _ ?_)
        simp only [decide_eq_true_eq, Bool.and_eq_true, beq_iff_eq]
        refine ⟨fun h => ⟨h.1, .inr (.inl ⟨.inr trivial, h.2.1, h.2.2⟩)⟩, fun h => ⟨h.1, ?_⟩⟩
        rcases h.2 with h | h | h
        · omega
        · exact h.2
        · omega
      · rw [show (k == 4) = false by simpa using h4]
        by_cases h3 : k = 3
        · subst h3
          refine Ev.val (right_j3 _ _ _ _ _) (key _ ?_)
          simp only [decide_eq_true_eq, Bool.and_eq_true]
          refine ⟨fun h => ⟨h.1, .inr (.inr ⟨trivial, h.2.1, h.2.2⟩)⟩, fun h => ⟨h.1, ?_⟩⟩
          rcases h.2 with h | h | h
          · omega
          · omega
          · exact h.2
        · refine Ev.val (right_jn _ _ h3 _ _ _ _) (key _ ?_)
          exact ⟨fun h => absurd h (by decide), fun h => by omega⟩
theorem letterOf_lett (k : Int) : (letterOf k = 0 ↔ lett k = []) ∧ letterB k = ba (lett k) := by
  unfold letterOf lett letterB
  by_cases h1 : k = 1
  · subst h1; exact ⟨by decide, rfl⟩
  · rw [if_neg h1, if_neg h1, if_neg h1]
    by_cases h2 : k = 2
    · subst h2; exact ⟨by decide, rfl⟩
    · rw [if_neg h2, if_neg h2, if_neg h2]
      by_cases h3 : k = 3
      · subst h3; exact ⟨by decide, rfl⟩
      · rw [if_neg h3, if_neg h3, if_neg h3]
        by_cases h4 : k = 4
        · subst h4; exact ⟨by decide, rfl⟩
        · rw [if_neg h4, if_neg h4, if_neg h4]
          exact ⟨by simp, rfl⟩
theorem prefix_f (k i : Int) (hk : 0 ≤ k) (hi : 0 ≤ i ∧ i < 4294967296) : Ev (fun r => inode_Prefix.f r k i) (ba (prefL k i)) := by
  unfold inode_Prefix.f prefL
  obtain ⟨h1, h2⟩ := letterOf_lett k
  refine Ev.ifp hk ?_
  by_cases h : letterOf k = 0
  · rw [if_pos (h1.1 h)]
    exact Ev.ifp h (Ev.const rfl)
  · rw [if_neg (fun e => h (h1.2 e))]
    refine Ev.ifn h (Ev.bind (num_f i 4 (by decide) (by decide) hi.1 (by rw [p4]; omega)) (Ev.ifp (by rw [ba_size, be_len]; omega) (Ev.const ?_)))
    rw [h2, ba_app]
theorem rightK_size {k i : Int} {nm : List UInt8} {c : Int} (h : rightK k i nm c = true) : nm.length ≤ 24 ∧ c < 512 := by
  unfold rightK at h
  rcases (of_decide_eq_true h).2 with h1 | h1 | h1
  · rw [h1.2.1]; exact ⟨by decide, by omega⟩
  · exact ⟨(nameL_iff.1 h1.2.1).2.1, by omega⟩
  · rw [h1.2.1]; exact ⟨by decide, by omega⟩
theorem key_f (k i : Int) (a : ByteArray) (c : Int) (hk : 0 ≤ k) (hi : 0 ≤ i ∧ i < 4294967296) (hc : 0 ≤ c) :
    Ev (fun r => inode_Key.f r k i a c) (ba (keyS k i a.data.toList c).1, (keyS k i a.data.toList c).2) := by
  unfold inode_Key.f keyS
  have hz := size_len a
  refine Ev.bind (right_f k i a c) ?_
  by_cases h : rightK k i a.data.toList c = true
  · rw [if_pos h]
    have hl := prefL_len (i := i) (lett_ne h)
    obtain ⟨hn, hc2⟩ := rightK_size h
    refine Ev.ifp h (Ev.bind (prefix_f k i hk hi) ?_)
    unfold keyL
    by_cases h3 : k = 3
    · rw [if_pos h3]
      refine Ev.ifp h3 (Ev.bind (num_f c 4 (by decide) (by decide) hc (by rw [p4]; omega)) (Ev.ifp (by rw [ba_size, ba_size, be_len]; omega) (Ev.const ?_)))
      rw [ba_app]
    · rw [if_neg h3]
      refine Ev.ifn h3 (Ev.ifp (by rw [ba_size]; omega) (Ev.const ?_))
      rw [← ba_app, data_ba]
  · rw [if_neg h]
    exact Ev.ifn h (Ev.const rfl)
def baK (x : KeyT) : Int × Int × ByteArray × Int × Int := (x.1, x.2.1, ba x.2.2.1, x.2.2.2.1, x.2.2.2.2)
theorem parse_round (a : ByteArray) (x d c1 c2 c3 c4 K : Int) (hx : 0 ≤ x ∧ x < 5) (hs : 0 < a.size) (hd : d = 0 ∨ d = 1 ∧ c1 = 105 ∧ c2 = 100 ∧ c3 = 99 ∧ c4 = 120) {r : Int × Int × ByteArray × Int × Int}
    (h : Ev (fun k => inode_Parse.l0 k a (x + 1) 1 0 0 0 105 100 99 120 (if letterOf x = bt a 0 then x else K) 0 ⟨#[]⟩ 0) r) :
    Ev (fun k => inode_Parse.l0 k a x d 0 0 0 c1 c2 c3 c4 K 0 ⟨#[]⟩ 0) r := by
  refine Ev.step (fun k => by rw [inode_Parse.l0]) ?_
  have hf : inode_letters_letter.f d 0 0 0 c1 c2 c3 c4 x = some (letterOf x, 1, 0, 0, 0, 105, 100, 99, 120) := by
    unfold inode_letters_letter.f
    rw [if_pos ⟨hx.1, rfl, rfl, hd⟩]
  have he : (x + 1) % 256 = x + 1 := by omega
  refine Ev.ifp hx.2 (Ev.bindc hf (Ev.ifp (by omega) ?_))
  rw [he]
  by_cases hb : letterOf x = bt a 0
  · rw [if_pos hb] at h
    exact Ev.ifp hb h
  · rw [if_neg hb] at h
    exact Ev.ifn hb h
theorem parse_end (a : ByteArray) (K d c1 c2 c3 c4 : Int) (hK : K = g1 a.data.toList) (h5 : ¬ a.data.toList.length < 5) :
    Ev (fun k => inode_Parse.l0 k a 5 d 0 0 0 c1 c2 c3 c4 K 0 ⟨#[]⟩ 0) (baK (parsS a.data.toList)) := by
  refine Ev.step (fun k => by rw [inode_Parse.l0]) ?_
  have hz := size_len a
  have hr := g2_range h5
  have t1 := tknum_f (a.extract 1 a.size) false 4 (by decide) (by decide)
  have e0 : (a.extract 1 a.size).data.toList = a.data.toList.drop 1 := by rw [ext_end, ba_data]
  rw [e0] at t1
  have el : (a.data.toList.drop 1).length = a.data.toList.length - 1 := by simp
  have e1 : (takeS 4 (a.data.toList.drop 1)).1 = g2 a.data.toList := by unfold takeS; rw [if_neg (by omega)]; rfl
  have e2 : (false || decide ((a.data.toList.drop 1).length < 4)) = false := by simp only [Bool.false_or, decide_eq_false_iff_not]; omega
  rw [e1, e2] at t1
  refine Ev.ifn (by omega) (Ev.ifp (by omega) (Ev.bind t1 ?_))
  rw [Int.emod_eq_of_lt hr.1 hr.2]
  have e5 : (a.data.toList.drop 1).drop 4 = r5 a.data.toList := rfl
  simp only [e5]
  have ez : baK (0, 0, [], 0, 4) = (0, 0, ⟨#[]⟩, 0, 4) := rfl
  have lk : 0 ≤ g1 a.data.toList := by unfold g1 kindOf; repeat' split <;> omega
  by_cases h3 : K = 3
  · refine Ev.ifp h3 ?_
    have t2 := tknum_f (ba (r5 a.data.toList)) false 4 (by decide) (by decide)
    rw [ba_data] at t2
    refine Ev.bind t2 ?_
    have hg3 : g1 a.data.toList = 3 := by omega
    have hw := key_whole h5 (by rw [hg3]; decide)
    simp only [Bool.false_or]
    have hn0 : 0 ≤ (takeS 4 (r5 a.data.toList)).1 ∧ (takeS 4 (r5 a.data.toList)).1 < 4294967296 := by
      unfold takeS
      by_cases h4 : (r5 a.data.toList).length < 4
      · simp only [if_pos h4]; omega
      · simp only [if_neg h4]
        have := num_lt 4 ((r5 a.data.toList).take 4) (by rw [List.length_take]; omega)
        rw [p4] at this
        omega
    have bad : ¬ ((r5 a.data.toList).length = 4 ∧ rightK 3 (g2 a.data.toList) [] (num (r5 a.data.toList)) = true) → baK (parsS a.data.toList) = (0, 0, (⟨#[]⟩ : ByteArray), 0, 4) := by
      intro h
      unfold parsS
      rw [if_neg h5, if_pos hg3, if_neg h]
      rfl
    have good : (r5 a.data.toList).length = 4 ∧ rightK 3 (g2 a.data.toList) [] (num (r5 a.data.toList)) = true → baK (parsS a.data.toList) = (3, g2 a.data.toList, (⟨#[]⟩ : ByteArray), (num (r5 a.data.toList) : Int), 0) := by
      intro h
      unfold parsS
      rw [if_neg h5, if_pos hg3, if_pos h]
      rfl
    rw [Int.emod_eq_of_lt hn0.1 hn0.2]
    refine Ev.bind (key_f K (g2 a.data.toList) ⟨#[]⟩ _ (by omega) hr hn0.1) ?_
    by_cases h4 : (r5 a.data.toList).length < 4
    · rw [bad (fun h => by have := h.1; omega)]
      exact Ev.ifp (by simpa using h4) (Ev.const rfl)
    · refine Ev.ifn (by simpa using h4) ?_
      have en : (takeS 4 (r5 a.data.toList)).1 = (num ((r5 a.data.toList).take 4) : Int) := by unfold takeS; rw [if_neg h4]
      rw [en, h3]
      have e0 : (⟨#[]⟩ : ByteArray).data.toList = [] := rfl
      rw [e0]
      by_cases hok : rightK 3 (g2 a.data.toList) [] (num ((r5 a.data.toList).take 4)) = true
      · have hk : keyS 3 (g2 a.data.toList) [] (num ((r5 a.data.toList).take 4)) = (keyL 3 (g2 a.data.toList) [] (num ((r5 a.data.toList).take 4)), 0) := by unfold keyS; rw [if_pos hok]
        rw [hk]
        refine Ev.ifp rfl ?_
        have ek : (ba (keyL 3 (g2 a.data.toList) [] (num ((r5 a.data.toList).take 4)))).toList = prefL 3 (g2 a.data.toList) ++ (r5 a.data.toList).take 4 := by
          rw [ba_toList]
          unfold keyL
          rw [if_pos rfl, Int.toNat_natCast, be_num 4 _ (by rw [List.length_take]; omega)]
        have ea : a.toList = prefL 3 (g2 a.data.toList) ++ r5 a.data.toList := by rw [ByteArray.toList_eq, ← hg3, hw]
        by_cases h44 : (r5 a.data.toList).length = 4
        · have et : (r5 a.data.toList).take 4 = r5 a.data.toList := List.take_of_length_le (by omega)
          rw [et] at hok ek ⊢
          rw [good ⟨h44, hok⟩]
          exact Ev.ifp (by rw [ek, ea]) (Ev.const rfl)
        · rw [bad (fun h => h44 h.1)]
          refine Ev.ifn (fun h => ?_) (Ev.const rfl)
          have h := h
          simp only at h
          rw [ek, ea] at h
          have := congrArg List.length (List.append_cancel_left h)
          rw [List.length_take] at this
          omega
      · have hk : keyS 3 (g2 a.data.toList) [] (num ((r5 a.data.toList).take 4)) = ([], 4) := by unfold keyS; rw [if_neg hok]
        rw [hk, bad (fun h => by rw [List.take_of_length_le (by omega)] at hok; exact hok h.2)]
        exact Ev.ifn (by decide) (Ev.const rfl)
  · refine Ev.ifn h3 ?_
    have hg3 : ¬ g1 a.data.toList = 3 := by omega
    have hk := key_f K (g2 a.data.toList) (ba (r5 a.data.toList)) 0 (by omega) hr (by omega)
    rw [ba_data] at hk
    refine Ev.bind hk (Ev.ifn (by decide) ?_)
    rw [hK]
    by_cases hok : rightK (g1 a.data.toList) (g2 a.data.toList) (r5 a.data.toList) 0 = true
    · have hp : parsS a.data.toList = (g1 a.data.toList, g2 a.data.toList, r5 a.data.toList, 0, 0) := by unfold parsS; rw [if_neg h5, if_neg hg3, if_pos hok]
      have hk : keyS (g1 a.data.toList) (g2 a.data.toList) (r5 a.data.toList) 0 = (keyL (g1 a.data.toList) (g2 a.data.toList) (r5 a.data.toList) 0, 0) := by unfold keyS; rw [if_pos hok]
      rw [hp, hk]
      refine Ev.ifp rfl (Ev.ifp ?_ (Ev.const rfl))
      rw [ba_toList]
      unfold keyL
      rw [if_neg hg3, key_whole h5 (right_kind hok), ByteArray.toList_eq]
    · have hp : parsS a.data.toList = (0, 0, [], 0, 4) := by unfold parsS; rw [if_neg h5, if_neg hg3, if_neg hok]
      have hk : keyS (g1 a.data.toList) (g2 a.data.toList) (r5 a.data.toList) 0 = ([], 4) := by unfold keyS; rw [if_neg hok]
      rw [hp, hk]
      exact Ev.ifn (by decide) (Ev.const rfl)
theorem parse_f (a : ByteArray) (hs : a.size ≤ 9223372036854775807) : Ev (fun k => inode_Parse.f k a) (baK (parsS a.data.toList)) := by
  unfold inode_Parse.f
  have hz := size_len a
  by_cases h5 : a.data.toList.length < 5
  · refine Ev.ifp (by omega) (Ev.const ?_)
    unfold parsS
    rw [if_pos h5]
    rfl
  · refine Ev.ifn (by omega) ?_
    have hd : ∀ d c1 c2 c3 c4 : Int, d = 1 ∧ c1 = 105 ∧ c2 = 100 ∧ c3 = 99 ∧ c4 = 120 → (d = 0 ∨ d = 1 ∧ c1 = 105 ∧ c2 = 100 ∧ c3 = 99 ∧ c4 = 120) := fun _ _ _ _ _ h => .inr h
    refine parse_round a 1 0 0 0 0 0 0 (by decide) (by omega) (.inl rfl) ?_
    refine parse_round a (1 + 1) 1 105 100 99 120 _ (by decide) (by omega) (hd _ _ _ _ _ ⟨rfl, rfl, rfl, rfl, rfl⟩) ?_
    refine parse_round a (1 + 1 + 1) 1 105 100 99 120 _ (by decide) (by omega) (hd _ _ _ _ _ ⟨rfl, rfl, rfl, rfl, rfl⟩) ?_
    refine parse_round a (1 + 1 + 1 + 1) 1 105 100 99 120 _ (by decide) (by omega) (hd _ _ _ _ _ ⟨rfl, rfl, rfl, rfl, rfl⟩) ?_
    refine parse_end a _ 1 105 100 99 120 ?_ h5
    have hlt : 0 < a.data.toList.length := by omega
    have hb := bt_get a 0 hlt
    simp only [Int.ofNat_zero] at hb
    rw [show bt a 0 = ((a.data.toList[0]).toNat : Int) from hb]
    have hg : g1 a.data.toList = kindOf (a.data.toList[0]) := by
      unfold g1
      congr 1
      match a.data.toList, hlt with
      | b :: _, _ => rfl
    rw [hg]
    generalize a.data.toList[0] = b
    have q := fun n (hn : n < 256) => byte_eq b n hn
    have q1 := q 105 (by decide)
    have q2 := q 100 (by decide)
    have q3 := q 99 (by decide)
    have q4 := q 120 (by decide)
    have l1 : letterOf 1 = 105 := rfl
    have l2 : letterOf (1 + 1) = 100 := rfl
    have l3 : letterOf (1 + 1 + 1) = 99 := rfl
    have l4 : letterOf (1 + 1 + 1 + 1) = 120 := rfl
    rw [l1, l2, l3, l4]
    unfold kindOf
    by_cases h1 : b = 105
    · subst h1; rfl
    · by_cases h2 : b = 100
      · subst h2; rfl
      · by_cases h3 : b = 99
        · subst h3; rfl
        · by_cases h4 : b = 120
          · subst h4; rfl
          · rw [if_neg h1, if_neg h2, if_neg h3, if_neg h4, if_neg (fun e => h4 (q4.1 e.symm)), if_neg (fun e => h3 (q3.1 e.symm)), if_neg (fun e => h2 (q2.1 e.symm)), if_neg (fun e => h1 (q1.1 e.symm))]
end Go.Proofs.YtpnmajblhgnkoaaGreat.Z
end

section
namespace Go.Proofs.YtpnmajblhgnkoaaGreat.Z
abbrev It := S56
abbrev key (x : It) : List UInt8 := x.f0.toList
def okK (k : ByteArray) : Bool := decide (k.toList ≠ [] ∧ k.size ≤ 48)
def okI (x : It) : Bool := okK x.f0 && decide (x.f1.size ≤ 160)
def okF : Option It → List It → Bool
  | _, [] => true
  | p, x :: l => okI x && (match p with | none => true | some q => Op.bytesLess (key q) (key x)) && okF (some x) l
def okL (l : List It) : Bool := okF none l
def Asc (l : List It) : Prop := l.Pairwise (fun x y => Op.bytesLess (key x) (key y) = true)
theorem okF_iff : ∀ (l : List It) (p : Option It), okF p l = true ↔ (∀ x ∈ l, okI x = true) ∧ Asc (p.toList ++ l)
  | [], none => by simp [okF, Asc]
  | [], some q => by simp [okF, Asc]
  | x :: l, none => by
    have ih := okF_iff l (some x)
    simp only [okF, Bool.and_true, Bool.and_eq_true, ih, Option.toList, List.nil_append, List.mem_cons, forall_eq_or_imp, List.singleton_append]
    constructor
    · rintro ⟨a, b, c⟩; exact ⟨⟨a, b⟩, c⟩
    · rintro ⟨⟨a, b⟩, c⟩; exact ⟨a, b, c⟩
  | x :: l, some q => by
    have ih := okF_iff l (some x)
    simp only [okF, Bool.and_eq_true, ih, Option.toList, List.mem_cons, forall_eq_or_imp, List.singleton_append]
    constructor
    · rintro ⟨⟨a, d⟩, b, c⟩
      refine ⟨⟨a, b⟩, ?_⟩
      unfold Asc at c ⊢
      refine List.pairwise_cons.2 ⟨fun y hy => ?_, c⟩
      rcases List.mem_cons.1 hy with rfl | hy
      · exact d
      · exact bl_trans d ((List.pairwise_cons.1 c).1 y hy)
    · rintro ⟨⟨a, b⟩, c⟩
      unfold Asc at c ⊢
      have := List.pairwise_cons.1 c
      exact ⟨⟨a, this.1 x (List.mem_cons_self ..)⟩, b, this.2⟩
theorem okL_iff (l : List It) : okL l = true ↔ (∀ x ∈ l, okI x = true) ∧ Asc l := by
  unfold okL; rw [okF_iff]; simp
theorem Asc.cons {x : It} {l : List It} (h : Asc (x :: l)) : (∀ y ∈ l, Op.bytesLess (key x) (key y) = true) ∧ Asc l := List.pairwise_cons.1 h
theorem Asc.parts {a b : List It} (h : Asc (a ++ b)) : Asc a ∧ Asc b ∧ ∀ x ∈ a, ∀ y ∈ b, Op.bytesLess (key x) (key y) = true := List.pairwise_append.1 h
def lo (l : List It) (k : List UInt8) : List It := l.takeWhile (fun x => Op.bytesLess (key x) k)
def up (l : List It) (k : List UInt8) : List It := l.dropWhile (fun x => Op.bytesLess (key x) k)
def fnd (l : List It) (k : List UInt8) : Bool := match up l k with | x :: _ => key x == k | [] => false
def hi (l : List It) (k : List UInt8) : List It := (up l k).dropWhile (fun x => key x == k)
theorem lo_up (l : List It) (k : List UInt8) : lo l k ++ up l k = l := List.takeWhile_append_dropWhile
theorem lo_mem {l : List It} {k : List UInt8} : ∀ x ∈ lo l k, Op.bytesLess (key x) k = true := by
  unfold lo
  induction l with
  | nil => simp
  | cons y l ih =>
    intro x hx
    rw [List.takeWhile_cons] at hx
    split at hx
    next h => rcases List.mem_cons.1 hx with rfl | hx
              · exact h
              · exact ih x hx
    next h => cases hx
theorem up_head {l : List It} {k : List UInt8} {x : It} {r : List It} (h : up l k = x :: r) : Op.bytesLess (key x) k = false := by
  unfold up at h
  induction l with
  | nil => simp at h
  | cons y l ih =>
    rw [List.dropWhile_cons] at h
    split at h
    next => exact ih h
    next hn => injection h with h1 _; subst h1; simpa using hn
theorem up_ge {l : List It} (ha : Asc l) {k : List UInt8} : ∀ x ∈ up l k, Op.bytesLess (key x) k = false := by
  intro x hx
  cases hu : up l k with
  | nil => rw [hu] at hx; cases hx
  | cons y r =>
    have h1 := up_head hu
    rw [hu] at hx
    rcases List.mem_cons.1 hx with rfl | hx
    · exact h1
    · have h2 : Asc (lo l k ++ y :: r) := by rw [← hu, lo_up]; exact ha
      have h3 := (h2.parts.2.1.cons).1 x hx
      cases hb : Op.bytesLess (key x) k
      · rfl
      · have := bl_trans h3 hb; rw [this] at h1; cases h1
theorem parts_of {l : List It} (ha : Asc l) (k : List UInt8) : ∃ mid, l = lo l k ++ mid ++ hi l k ∧ up l k = mid ++ hi l k ∧ (∀ x ∈ lo l k, Op.bytesLess (key x) k = true) ∧ (∀ x ∈ hi l k, Op.bytesLess k (key x) = true) ∧
    ((mid = [] ∧ fnd l k = false) ∨ (∃ x, mid = [x] ∧ key x = k ∧ fnd l k = true)) := by
  cases hu : up l k with
  | nil =>
    have hh : hi l k = [] := by unfold hi; rw [hu]; rfl
    refine ⟨[], ?_, by rw [hh]; rfl, lo_mem, by rw [hh]; simp, .inl ⟨rfl, by unfold fnd; rw [hu]⟩⟩
    have := lo_up l k
    rw [hu] at this
    rw [hh]; simpa using this.symm
  | cons y r =>
    have h2 : Asc (lo l k ++ y :: r) := by rw [← hu, lo_up]; exact ha
    have hr := (h2.parts.2.1.cons).1
    have hy := up_head hu
    have hl : l = lo l k ++ y :: r := by rw [← hu, lo_up]
    by_cases he : key y = k
    · have hd : r.dropWhile (fun x => key x == k) = r := by
        cases r with
        | nil => rfl
        | cons z r =>
          have hz := hr z (List.mem_cons_self ..)
          have : (key z == k) = false := by rw [beq_eq_false_iff_ne]; rintro hk; rw [← he] at hk; exact bl_ne hz hk.symm
          rw [List.dropWhile_cons]; simp [this]
      have hh : hi l k = r := by
        unfold hi; rw [hu, List.dropWhile_cons]
        simp only [he, beq_self_eq_true, if_true]
        exact hd
      refine ⟨[y], by rw [hh]; simpa using hl, by rw [hh]; rfl, lo_mem, ?_, .inr ⟨y, rfl, he, by unfold fnd; rw [hu]; simpa using he⟩⟩
      rw [hh]; intro x hx; rw [← he]; exact hr x hx
    · have hk : Op.bytesLess k (key y) = true := by
        rcases bl_total (key y) k with h | h | h
        · exact absurd h he
        · have h' : Op.bytesLess (key y) k = true := h
          rw [hy] at h'; cases h'
        · exact h
      have hb : (key y == k) = false := by rw [beq_eq_false_iff_ne]; exact he
      have hh : hi l k = y :: r := by unfold hi; rw [hu, List.dropWhile_cons]; simp [hb]
      refine ⟨[], by rw [hh]; simpa using hl, by rw [hh]; rfl, lo_mem, ?_, .inl ⟨rfl, by unfold fnd; rw [hu]; exact hb⟩⟩
      rw [hh]; intro x hx
      rcases List.mem_cons.1 hx with rfl | hx
      · exact hk
      · exact bl_trans hk (hr x hx)
def look (l : List It) (k : List UInt8) : Option ByteArray := (l.find? (fun x => key x == k)).map (·.f1)
theorem look_app (a b : List It) (k : List UInt8) : look (a ++ b) k = (look a k).or (look b k) := by
  unfold look; rw [List.find?_append]; cases h : a.find? (fun x => key x == k) <;> simp
theorem look_none {l : List It} {k : List UInt8} (h : ∀ x ∈ l, key x ≠ k) : look l k = none := by
  unfold look
  rw [List.find?_eq_none.2 (fun x hx => by simpa using h x hx)]; rfl
theorem look_cons (x : It) (l : List It) (k : List UInt8) : look (x :: l) k = if key x = k then some x.f1 else look l k := by
  unfold look
  rw [List.find?_cons]
  by_cases h : key x = k
  · simp [h]
  · have : (key x == k) = false := by rw [beq_eq_false_iff_ne]; exact h
    rw [if_neg h, this]
-- the reference's Done
end Go.Proofs.YtpnmajblhgnkoaaGreat.Z
end

section
namespace Go.Proofs.YtpnmajblhgnkoaaGreat.Z
attribute [local go_sem] max2_int min2_int max_two min_two max_three min_three max_four min_four   -- for this text's walks alone
theorem eqA56 (d : Nat) (w : World) (x0 y0 : ByteArray) (x1 y1 : ByteArray) :
    (Op.equalIn (d + 2) 56 (.agg #[.string x0, .string x1]) (.agg #[.string y0, .string y1])).run Tryz.prog w = .ok (x0.toList == y0.toList && (x1.toList == y1.toList)) w := by
  refine eqA_of Tryz.underlying56 (by kernel_rfl) ?_
  refine eqf_cons (by rfl) (by go_simp; rfl) (by go_simp; rfl) (by go_simp) ?_
  exact eqf_last (by rfl) (by go_simp; rfl) (by go_simp; rfl) (by go_simp)
end Go.Proofs.YtpnmajblhgnkoaaGreat.Z
end

section
namespace Go.Proofs.YtpnmajblhgnkoaaGreat.Z
attribute [local go_sem] max2_int min2_int max_two min_two max_three min_three max_four min_four   -- for this text's walks alone
attribute [local go_sem high] eqA56
def cambiumref04_Same.l0 : Nat → List (S56) → List (S56) → Int → Int → Option (Bool)
 | 0, _, _, _, _ => none
 | k + 1, x0, x1, x12, x13 => if x13 < x12 then (if 0 ≤ x13 then (if x13 < (x0.length : Int) then (if x13 < (x1.length : Int) then (if (!((((rd_T56 x0 x13).f0).toList) == (((rd_T56 x1 x13).f0).toList)) || (!((((rd_T56 x0 x13).f1).toList) == (((rd_T56 x1 x13).f1).toList)))) = true then (some false) else (cambiumref04_Same.l0 k x0 x1 x12 (wrap64 (x13 + 1)))) else (none)) else (none)) else (none)) else (some true)
def cambiumref04_Same.f (k : Nat) (l0 : List (S56)) (l1 : List (S56)) : Option (Bool) := if (l0.length : Int) = (l1.length : Int) then (cambiumref04_Same.l0 k l0 l1 (l0.length : Int) 0) else (some false)
theorem cambiumref04_Same.mono_l : ∀ k, (∀ y0 y1 y2 y3, LeO (cambiumref04_Same.l0 k y0 y1 y2 y3) (cambiumref04_Same.l0 (k + 1) y0 y1 y2 y3))
 | 0 => by intros; intro r h; simp [cambiumref04_Same.l0] at h
 | k + 1 => by
  have ih0 := cambiumref04_Same.mono_l k
  intros
  unfold cambiumref04_Same.l0
  repeat' (first | (with_reducible first | exact ih0 _ _ _ _ | exact LeO.refl _ | exact LeO.none _ | refine LeO.ite ?_ ?_ | refine LeO.bind ?_ (fun _ => ?_)))
theorem cambiumref04_Same.mono : ∀ a0 a1 k, LeO (cambiumref04_Same.f k a0 a1) (cambiumref04_Same.f (k + 1) a0 a1) := by
 intro a0 a1 k
 have ih0 := cambiumref04_Same.mono_l k
 unfold cambiumref04_Same.f
 repeat' (first | (with_reducible first | exact ih0 _ _ _ _ | exact LeO.refl _ | exact LeO.none _ | refine LeO.ite ?_ ?_ | refine LeO.bind ?_ (fun _ => ?_)))
set_option maxHeartbeats 8000000 in
set_option maxRecDepth 100000 in
theorem cambiumref04_Same.calls (k : Nat) (A0 : Option Addr) (c0 : Nat) (l0 : List (S56)) (A1 : Option Addr) (c1 : Nat) (l1 : List (S56)) (r : Bool) (w : World) (hr0 : Kd.C k56 w A0 l0.length l0) (hc0 : l0.length ≤ c0) (hr1 : Kd.C k56 w A1 l1.length l1) (hc1 : l1.length ≤ c1) (h : cambiumref04_Same.f k l0 l1 = some r) :
  Calls Tryz.prog 15 #[.slice A0 l0.length c0, .slice A1 l1.length c1] w fun e w' => e = .returned (.bool r) ∧ Drawn0 w w' := by
 have hu56 := Tryz.underlying56
 have HR0 := ak_ hr0
 have HC0 := ak_ hc0
 clear hr0 hc0
 have HR1 := ak_ hr1
 have HC1 := ak_ hc1
 clear hr1 hc1
 have H : (if (l0.length : Int) = (l1.length : Int) then (cambiumref04_Same.l0 k l0 l1 (l0.length : Int) 0) else (some false)) = some r := h
 clear h
 by_cases c3 : (l0.length : Int) = (l1.length : Int)
 ·rw [if_pos c3] at H
  have c3b0 : ((l0.length : Int) == (l1.length : Int)) = true := beq_iff_eq.mpr c3
  have c3b1 : ((l0.length : Int) != (l1.length : Int)) = false := bne_eq_false_iff_eq.mpr c3
  have c3b2 : (l0.length == l1.length) = true := by first | simpa using c3 | (simp at c3 ⊢; omega)
  clear c3
  have H' := ak_ H
  clear H
  go_enter Tryz.func15, Tryz.ntmps15
  go_wp2
  repeat (go_quiet (fail); try go_wp2)
  go_loopg [13] k (fun kq v13 w' => ∃ (x13_1 : Int), v13 = .int .i64 x13_1 ∧ Aside0 (cambiumref04_Same.l0 kq l0 l1 (l0.length : Int) x13_1 = some r) ∧ Aside0 (kq ≤ k) ∧ Drawn0 w w')
  case atStart => exact ⟨(0), (by first | rfl | (simp; done) | (simp [*]; done)), H', ⟨Nat.le_refl _⟩, by repeat (first | exact Drawn0.refl _ | apply Drawn0.step)⟩
  case round =>
   clear H'
   try clear c1
   try clear p2
   try clear c3
   try clear c3b0
   try clear c3b1
   try clear c3b2
   obtain ⟨x13_1, rfl, HA, HK1, ⟨m1, rfl⟩⟩ := hrel
   cases gk with
   | zero => exact absurd HA.out (by simp [cambiumref04_Same.l0])
   | succ k1 =>
    have H := HA.out
    clear HA
    simp only [cambiumref04_Same.l0] at H
    by_cases c4 : x13_1 < (l0.length : Int)
    ·rw [if_pos c4] at H
     have c4b0 : decide (x13_1 < (l0.length : Int)) = true := decide_eq_true c4
     clear c4
     by_cases c5 : 0 ≤ x13_1
     ·rw [if_pos c5] at H
      have c5b0 : decide (0 ≤ x13_1) = true := decide_eq_true c5
      clear c5
      by_cases c6 : x13_1 < (l0.length : Int)
      ·rw [if_pos c6] at H
       have c6b0 : decide (x13_1 < (l0.length : Int)) = true := decide_eq_true c6
       clear c6
       by_cases c7 : x13_1 < (l1.length : Int)
       ·rw [if_pos c7] at H
        have c7b0 : decide (x13_1 < (l1.length : Int)) = true := decide_eq_true c7
        clear c7
        by_cases c8 : (!((((rd_T56 l0 x13_1).f0).toList) == (((rd_T56 l1 x13_1).f0).toList)) || (!((((rd_T56 l0 x13_1).f1).toList) == (((rd_T56 l1 x13_1).f1).toList)))) = true
        ·rw [if_pos c8] at H
         have c8b0 : (!((((rd_T56 l0 x13_1).f0).toList) == (((rd_T56 l1 x13_1).f0).toList)) || (!((((rd_T56 l0 x13_1).f1).toList) == (((rd_T56 l1 x13_1).f1).toList)))) = true := c8
         clear c8
         obtain rfl := Option.some.inj H
         have p468 : 0 ≤ (x13_1 : Int) := of_decide_eq_true (by first | (with_reducible assumption) | assumption)
         have q468 : x13_1 < (l0.length : Int) := of_decide_eq_true (by first | (with_reducible assumption) | assumption)
         obtain ⟨ad468, e468, hx468_0, hx468_1⟩ := at_T56 HR0.out x13_1 p468 q468
         cases e468
         replace p468 := eq_true p468
         replace q468 := eq_true q468
         have p469 : 0 ≤ (x13_1 : Int) := of_decide_eq_true (by first | (with_reducible assumption) | assumption)
         have q469 : x13_1 < (l1.length : Int) := of_decide_eq_true (by first | (with_reducible assumption) | assumption)
         obtain ⟨ad469, e469, hx469_0, hx469_1⟩ := at_T56 HR1.out x13_1 p469 q469
         cases e469
         replace p469 := eq_true p469
         replace q469 := eq_true q469
         go_wp2
         repeat (go_quiet (fail); try go_wp2)
         go_ret
         exact ⟨by first | rfl | (simp; done) | (simp [*]; done), by repeat (first | exact Drawn0.refl _ | apply Drawn0.step)⟩
        rw [if_neg c8] at H
        have c8b0 : (!((((rd_T56 l0 x13_1).f0).toList) == (((rd_T56 l1 x13_1).f0).toList)) || (!((((rd_T56 l0 x13_1).f1).toList) == (((rd_T56 l1 x13_1).f1).toList)))) = false := by simpa using c8
        clear c8
        have H' := ak_ H
        clear H
        have p468 : 0 ≤ (x13_1 : Int) := of_decide_eq_true (by first | (with_reducible assumption) | assumption)
        have q468 : x13_1 < (l0.length : Int) := of_decide_eq_true (by first | (with_reducible assumption) | assumption)
        obtain ⟨ad468, e468, hx468_0, hx468_1⟩ := at_T56 HR0.out x13_1 p468 q468
        cases e468
        replace p468 := eq_true p468
        replace q468 := eq_true q468
        have p469 : 0 ≤ (x13_1 : Int) := of_decide_eq_true (by first | (with_reducible assumption) | assumption)
        have q469 : x13_1 < (l1.length : Int) := of_decide_eq_true (by first | (with_reducible assumption) | assumption)
        obtain ⟨ad469, e469, hx469_0, hx469_1⟩ := at_T56 HR1.out x13_1 p469 q469
        cases e469
        replace p469 := eq_true p469
        replace q469 := eq_true q469
        go_wp2
        repeat (go_quiet (fail); try go_wp2)
        go_roundg k1
        case measure => have := HK1.out; omega
        case rel => exact ⟨(wrap64 (x13_1 + 1)), (by first | rfl | (simp; done) | (simp [*]; done)), H', ⟨by have := HK1.out; omega⟩, by repeat (first | exact Drawn0.refl _ | apply Drawn0.step)⟩
       rw [if_neg c7] at H
       exact absurd H (by simp)
      rw [if_neg c6] at H
      exact absurd H (by simp)
     rw [if_neg c5] at H
     exact absurd H (by simp)
    rw [if_neg c4] at H
    have c4b0 : decide (x13_1 < (l0.length : Int)) = false := decide_eq_false c4
    clear c4
    obtain rfl := Option.some.inj H
    go_wp2
    repeat (go_quiet (fail); try go_wp2)
    go_ret
    exact ⟨by first | rfl | (simp; done) | (simp [*]; done), by repeat (first | exact Drawn0.refl _ | apply Drawn0.step)⟩
 rw [if_neg c3] at H
 have c3b0 : ((l0.length : Int) == (l1.length : Int)) = false := beq_eq_false_iff_ne.mpr c3
 have c3b1 : ((l0.length : Int) != (l1.length : Int)) = true := bne_iff_ne.mpr c3
 have c3b2 : (l0.length == l1.length) = false := by first | simpa using c3 | (simp at c3 ⊢; omega)
 obtain rfl := Option.some.inj H
 go_enter Tryz.func15, Tryz.ntmps15
 go_wp2
 repeat (go_quiet (fail); try go_wp2)
 go_ret
 exact ⟨by first | rfl | (simp; done) | (simp [*]; done), by repeat (first | exact Drawn0.refl _ | apply Drawn0.step)⟩
end Go.Proofs.YtpnmajblhgnkoaaGreat.Z
end

section
namespace Go.Proofs.YtpnmajblhgnkoaaGreat.Z
theorem rd_get (l : List It) (i : Nat) (h : i < l.length) : rd_T56 l (i : Int) = l[i] := by
  unfold rd_T56
  rw [Int.toNat_natCast, List.getD_eq_getElem?_getD, List.getElem?_eq_getElem h]; rfl
theorem iright_f (x : It) : item_right.f x.f0 x.f1 = some (okI x) := by
  unfold item_right.f okI okK
  by_cases h : x.f0.toList = []
  · simp [h]
  · rw [if_neg h]
    by_cases h2 : (x.f0.size : Int) ≤ 48
    · rw [if_pos h2]
      have h3 : x.f0.size ≤ 48 := by omega
      have : decide ((x.f1.size : Int) ≤ 160) = decide (x.f1.size ≤ 160) := decide_eq_decide.2 (by omega)
      simp [h, h3, this]
    · rw [if_neg h2]
      have h3 : ¬ x.f0.size ≤ 48 := by omega
      simp [h3]
def prv (l : List It) : Nat → Option It
  | 0 => none
  | j + 1 => l[j]?
theorem prv_succ (l : List It) (i : Nat) (h : i < l.length) : prv l (i + 1) = some l[i] := List.getElem?_eq_getElem h
def ckS (b : Bool) : Int := if b then 0 else 4
theorem okF_at (l : List It) (i : Nat) (h : i < l.length) : okF (prv l i) (l.drop i) = (okI l[i] && (match prv l i with | none => true | some q => Op.bytesLess (key q) (key l[i])) && okF (prv l (i + 1)) (l.drop (i + 1))) := by
  rw [List.drop_eq_getElem_cons h, prv_succ l i h]
  cases prv l i <;> rfl
theorem itCheck_l0 (l : List It) (hl : l.length ≤ 4398046511104) : ∀ d i : Nat, l.length = i + d → Ev (fun k => item_Check.l0 k l l (l.length : Int) (i : Int)) (ckS (okF (prv l i) (l.drop i)))
  | 0, i, hi => by
    refine Ev.step (fun k => by rw [item_Check.l0]) ?_
    refine Ev.ifn (by omega) (Ev.const ?_)
    rw [List.drop_of_length_le (by omega)]
    unfold okF; rfl
  | d + 1, i, hi => by
    have hlt : i < l.length := by omega
    have ih := itCheck_l0 l hl d (i + 1) (by omega)
    rw [okF_at l i hlt]
    refine Ev.step (fun k => by rw [item_Check.l0]) ?_
    refine Ev.ifp (by omega) (Ev.ifp (by omega) (Ev.ifp (by omega) (Ev.bindc (by rw [rd_get l i hlt]; exact iright_f _) ?_)))
    cases hr : okI l[i] with
    | false => exact Ev.ifn (by simp) (Ev.const rfl)
    | true =>
      refine Ev.ifp rfl ?_
      rw [w64 (i := (i : Int) + 1) (by omega) (by omega)]
      cases i with
      | zero =>
        refine Ev.ifn (by omega) (Ev.val ih ?_)
        simp [prv]
      | succ j =>
        refine Ev.ifp (by omega) ?_
        have e : wrap64 (((j + 1 : Nat) : Int) - 1) = (j : Int) := by rw [w64 (by omega) (by omega)]; omega
        rw [e]
        refine Ev.ifp (by omega) (Ev.ifp (by omega) ?_)
        rw [rd_get l j (by omega), rd_get l (j + 1) hlt]
        rw [prv_succ l j (by omega)]
        cases hb : Op.bytesLess (l[j]).f0.toList (l[j + 1]).f0.toList with
        | false =>
          refine Ev.ifn (by simp) (Ev.const ?_)
          simp [ckS, key, hb]
        | true =>
          refine Ev.ifp rfl (Ev.val ih ?_)
          simp [key, hb]
theorem itCheck (l : List It) (hl : l.length ≤ 4398046511104) : Ev (fun k => item_Check.f k l) (ckS (okL l)) := itCheck_l0 l hl l.length 0 (by omega)
-- two texts compared
def cmpS (a b : List UInt8) : Int := if Op.bytesLess a b = true then -1 else if Op.bytesLess b a = true then 1 else 0
theorem compare_f (a b : ByteArray) : cmp_Compare_string.f a b = some (cmpS a.toList b.toList) := by
  unfold cmp_Compare_string.f cmp_isNaN_string.f cmpS
  simp only [bne_self_eq_false, Option.bind_some, Bool.false_eq_true, if_false]
  split
  · rfl
  · split <;> rfl
theorem cmpS_lt (a b : List UInt8) : cmpS a b < 0 ↔ Op.bytesLess a b = true := by
  unfold cmpS
  cases h : Op.bytesLess a b
  · simp only [Bool.false_eq_true, if_false, iff_false]; split <;> omega
  · simp
theorem cmpS_eq (a b : List UInt8) : (cmpS a b == 0) = (a == b) := by
  unfold cmpS
  rcases bl_total a b with rfl | h | h
  · simp [bl_irrefl]
  · have := bl_ne h
    simp [h, this]
  · have := (bl_ne h).symm
    simp [h, bl_asymm h, this]
theorem iu64w {i : Int} (h0 : 0 ≤ i) (h1 : i ≤ 9223372036854775807) : IntKind.u64.wrap i = i := by
  simp [IntKind.wrap, IntKind.bits, IntKind.signed]; omega
theorem lo_get {l : List It} (ha : Asc l) (k : List UInt8) (h : Nat) (hh : h < l.length) : Op.bytesLess (key l[h]) k = true ↔ h < (lo l k).length := by
  have e := lo_up l k
  constructor
  · intro hb
    rcases Nat.lt_or_ge h (lo l k).length with hc | hc
    · exact hc
    · have hm : l[h] ∈ up l k := by
        have : l[h] = (lo l k ++ up l k)[h]'(by rw [e]; exact hh) := by simp only [e]
        rw [this, List.getElem_append_right hc]
        exact List.getElem_mem _
      rw [up_ge ha _ hm] at hb; cases hb
  · intro hc
    have hm : l[h] ∈ lo l k := by
      have : l[h] = (lo l k ++ up l k)[h]'(by rw [e]; exact hh) := by simp only [e]
      rw [this, List.getElem_append_left hc]
      exact List.getElem_mem _
    exact lo_mem _ hm
theorem lo_le (l : List It) (k : List UInt8) : (lo l k).length ≤ l.length := by
  have := congrArg List.length (lo_up l k); rw [List.length_append] at this; omega
theorem up_drop (l : List It) (k : List UInt8) : up l k = l.drop (lo l k).length := by
  have := congrArg (List.drop (lo l k).length) (lo_up l k)
  rw [List.drop_left] at this
  exact this
theorem search_l0 {l : List It} (ha : Asc l) (hl : l.length ≤ 4398046511104) (a : ByteArray) : ∀ d i j : Nat, j - i ≤ d → i ≤ (lo l a.toList).length → (lo l a.toList).length ≤ j → j ≤ l.length →
    Ev (fun k => slices_BinarySearchFunc_api_Item_api_Item_string_fn97.l0 k l a (l.length : Int) (i : Int) (j : Int)) (((lo l a.toList).length : Int), fnd l a.toList) := by
  have endd : ∀ i : Nat, i = (lo l a.toList).length → ∀ j : Nat, ¬ ((i : Int) < (j : Int)) → Ev (fun k => slices_BinarySearchFunc_api_Item_api_Item_string_fn97.l0 k l a (l.length : Int) (i : Int) (j : Int)) (((lo l a.toList).length : Int), fnd l a.toList) := by
    intro i hi j hj
    refine Ev.step (fun k => by rw [slices_BinarySearchFunc_api_Item_api_Item_string_fn97.l0]) (Ev.ifn hj ?_)
    have hu := up_drop l a.toList
    rw [← hi] at hu
    rcases Nat.lt_or_ge i l.length with hlt | hge
    · refine Ev.ifp (by omega) (Ev.ifp (by omega) (Ev.ifp (by omega) ?_))
      refine Ev.bindc (show item_place_1.f _ _ _ = some _ by unfold item_place_1.f; rw [compare_f]; rfl) (Ev.const ?_)
      rw [rd_get l i hlt, cmpS_eq, ← hi]
      unfold fnd
      rw [hu, List.drop_eq_getElem_cons hlt]
    · refine Ev.ifn (by omega) (Ev.const ?_)
      rw [← hi]
      unfold fnd
      rw [hu, List.drop_of_length_le hge]
  intro d
  induction d with
  | zero =>
    intro i j hd h1 h2 h3
    exact endd i (by omega) j (by omega)
  | succ d ih =>
    intro i j hd h1 h2 h3
    by_cases hij : i < j
    · refine Ev.step (fun k => by rw [slices_BinarySearchFunc_api_Item_api_Item_string_fn97.l0]) (Ev.ifp (by omega) ?_)
      have hm : wrap64 ((IntKind.u64.wrap (wrap64 ((i : Int) + (j : Int)))) / 2) = (((i + j) / 2 : Nat) : Int) := by
        rw [w64 (i := (i : Int) + (j : Int)) (by omega) (by omega), iu64w (by omega) (by omega), w64 (by omega) (by omega)]; omega
      rw [hm]
      obtain ⟨h, hh⟩ : ∃ h, h = (i + j) / 2 := ⟨_, rfl⟩
      have hh1 : i ≤ h := by omega
      have hh2 : h < j := by omega
      rw [← hh]
      have hlt : h < l.length := by omega
      refine Ev.ifp (by omega) (Ev.ifp (by omega) ?_)
      refine Ev.bindc (show item_place_1.f _ _ _ = some _ by unfold item_place_1.f; rw [compare_f]; rfl) ?_
      rw [rd_get l h hlt]
      have hg := lo_get ha a.toList h hlt
      by_cases hb : Op.bytesLess (key l[h]) a.toList = true
      · refine Ev.ifp ((cmpS_lt _ _).2 hb) ?_
        have e : wrap64 ((h : Int) + 1) = ((h + 1 : Nat) : Int) := by rw [w64 (by omega) (by omega)]; omega
        rw [e]
        exact ih (h + 1) j (by omega) (by have := hg.1 hb; omega) h2 h3
      · refine Ev.ifn (fun hc => hb ((cmpS_lt _ _).1 hc)) ?_
        refine ih i h (by omega) h1 ?_ (by omega)
        rcases Nat.lt_or_ge h (lo l a.toList).length with hc | hc
        · exact absurd (hg.2 hc) hb
        · exact hc
    · exact endd i (by omega) j (by omega)
theorem place_f {l : List It} (ha : Asc l) (hl : l.length ≤ 4398046511104) (a : ByteArray) : Ev (fun k => item_place.f k l a) (((lo l a.toList).length : Int), fnd l a.toList) := by
  unfold item_place.f slices_BinarySearchFunc_api_Item_api_Item_string_fn97.f
  exact Ev.bind (search_l0 ha hl a l.length 0 l.length (by omega) (by omega) (lo_le _ _) (Nat.le_refl _)) (Ev.const rfl)
theorem at_fnd {l : List It} (ha : Asc l) {k : List UInt8} (hf : fnd l k = true) : ∃ h : (lo l k).length < l.length, key (l[(lo l k).length]) = k ∧ l = lo l k ++ [l[(lo l k).length]] ++ hi l k := by
  obtain ⟨mid, hp, hu, hlo, hhi, hm⟩ := parts_of ha k
  rcases hm with ⟨_, h⟩ | ⟨x, rfl, hx, _⟩
  · rw [h] at hf; cases hf
  · have hlen := congrArg List.length hp
    simp only [List.length_append, List.length_singleton] at hlen
    have hlt : (lo l k).length < l.length := by omega
    have hg : l[(lo l k).length] = x := by
      have : l[(lo l k).length]? = some x := by
        have h2 := congrArg (fun z => z[(lo l k).length]?) hp
        simp only [List.append_assoc] at h2
        rw [List.getElem?_append_right (Nat.le_refl _), Nat.sub_self] at h2
        simpa using h2
      rw [List.getElem?_eq_getElem hlt] at this
      exact Option.some.inj this
    exact ⟨hlt, by rw [hg]; exact hx, by rw [hg]; exact hp⟩
theorem not_fnd {l : List It} (ha : Asc l) {k : List UInt8} (hf : fnd l k = false) : l = lo l k ++ hi l k := by
  obtain ⟨mid, hp, hu, hlo, hhi, hm⟩ := parts_of ha k
  rcases hm with ⟨rfl, _⟩ | ⟨x, rfl, hx, h⟩
  · simpa using hp
  · rw [h] at hf; cases hf
theorem hi_gt {l : List It} (ha : Asc l) {k : List UInt8} : ∀ x ∈ hi l k, Op.bytesLess k (key x) = true := by
  obtain ⟨mid, hp, hu, hlo, hhi, hm⟩ := parts_of ha k
  exact hhi
theorem look_fnd {l : List It} (ha : Asc l) {k : List UInt8} (hf : fnd l k = true) (h : (lo l k).length < l.length) : look l k = some (l[(lo l k).length]).f1 := by
  obtain ⟨h2, hk, hp⟩ := at_fnd ha hf
  have e := congrArg (fun z => look z k) hp
  simp only [look_app] at e
  rw [e, look_none (fun x hx => bl_ne (lo_mem x hx)), look_cons, if_pos hk]
  simp
theorem look_not {l : List It} (ha : Asc l) {k : List UInt8} (hf : fnd l k = false) : look l k = none := by
  have e := congrArg (fun z => look z k) (not_fnd ha hf)
  simp only [look_app] at e
  rw [e, look_none (fun x hx => bl_ne (lo_mem x hx)), look_none (fun x hx => (bl_ne (hi_gt ha x hx)).symm)]; rfl
def getS (l : List It) (k : List UInt8) : ByteArray × Int := if okL l = true then (match look l k with | some v => (v, 0) | none => (⟨#[]⟩, 5)) else (⟨#[]⟩, 4)
theorem itGet (l : List It) (hl : l.length ≤ 4398046511104) (a : ByteArray) : Ev (fun k => item_Get.f k l a) (getS l a.toList) := by
  unfold item_Get.f
  refine Ev.bind (itCheck l hl) ?_
  by_cases ho : okL l = true
  · have ha := ((okL_iff l).1 ho).2
    unfold getS
    rw [if_pos ho]
    refine Ev.ifp (by rw [ho]; rfl) (Ev.bind (place_f ha hl a) ?_)
    cases hf : fnd l a.toList with
    | true =>
      obtain ⟨h, hk, _⟩ := at_fnd ha hf
      refine Ev.ifp rfl (Ev.ifp (by simp only; omega) (Ev.ifp (by simp only; omega) (Ev.const ?_)))
      rw [look_fnd ha hf h, rd_get l _ h]
    | false =>
      refine Ev.ifn (by simp) (Ev.const ?_)
      rw [look_not ha hf]
  · have ho' : okL l = false := by simpa using ho
    unfold getS
    rw [ho']
    exact Ev.ifn (by decide) (Ev.const rfl)
theorem look_at {l : List It} (ha : Asc l) (j : Nat) (h : j < l.length) : look l (key l[j]) = some (l[j]).f1 := by
  have e : l = l.take j ++ l[j] :: l.drop (j + 1) := by rw [← List.drop_eq_getElem_cons h, List.take_append_drop]
  have ha2 : Asc (l.take j ++ l[j] :: l.drop (j + 1)) := e ▸ ha
  have e2 := congrArg (fun z => look z (key l[j])) e
  simp only [look_app] at e2
  rw [e2, look_none (fun x hx => bl_ne (ha2.parts.2.2 x hx _ (List.mem_cons_self ..))), look_cons, if_pos rfl]; rfl
end Go.Proofs.YtpnmajblhgnkoaaGreat.Z
end

section
namespace Go.Proofs.YtpnmajblhgnkoaaGreat.Z
open Go.Proofs.YtpnmajblhgnkoaaGreat.PM
def numS (v : ByteArray) : Int := if v.data.toList.length = 4 then (if (num v.data.toList : Int) ≤ 1 then 0 else num v.data.toList) else 0
theorem numS_f (v : ByteArray) : Ev (fun k => dirs_number.f k v) (numS v) := by
  unfold dirs_number.f
  refine Ev.bind (tnum_f v 4 (by decide) (by decide)) ?_
  unfold numS ba3 takeS
  by_cases h : v.data.toList.length < 4
  · refine Ev.ifn (by simp only [if_pos h]; decide) (Ev.const ?_)
    rw [if_neg (by omega)]
  · refine Ev.ifp (by simp only [if_neg h]) ?_
    by_cases h4 : v.data.toList.length = 4
    · have hd : v.data.toList.drop 4 = [] := List.drop_eq_nil_of_le (by omega)
      have ht : v.data.toList.take 4 = v.data.toList := List.take_of_length_le (by omega)
      have hn := num_lt 4 v.data.toList h4
      rw [p4] at hn
      refine Ev.ifp (by simp only [ba_toList]; exact hd) ?_
      simp only [if_neg h, ht, if_pos h4]
      refine Ev.ite (fun h1 => Ev.const (by rw [if_pos h1])) (fun h1 => Ev.const (by rw [if_neg h1]; congr 1; omega))
    · refine Ev.ifn (by simp only [ba_toList]; intro h0; have := congrArg List.length h0; rw [List.length_drop, List.length_nil] at this; omega) (Ev.const ?_)
      rw [if_neg h4]
theorem numS_range (v : ByteArray) : numS v = 0 ∨ (1 < numS v ∧ numS v < 4294967296) := by
  unfold numS
  by_cases h : v.data.toList.length = 4
  · have hn := num_lt 4 v.data.toList h
    rw [p4] at hn
    rw [if_pos h]
    by_cases h1 : (num v.data.toList : Int) ≤ 1
    · rw [if_pos h1]; exact .inl rfl
    · rw [if_neg h1]; exact .inr (by omega)
  · rw [if_neg h]; exact .inl rfl
def keptS (x : It) : KItm := ⟨(parsS x.f0.data.toList).1, (parsS x.f0.data.toList).2.1, ba (parsS x.f0.data.toList).2.2.1, (parsS x.f0.data.toList).2.2.2.1, x.f1⟩
def inoS (v : ByteArray) : INd := ⟨(decS v.data.toList).1, (decS v.data.toList).2.1, (decS v.data.toList).2.2.1, (decS v.data.toList).2.2.2.1, ba (decS v.data.toList).2.2.2.2.1⟩
def okP (x : It) : Bool := (parsS x.f0.data.toList).2.2.2.2 == 0 && (!((keptS x).f0 == 1) || (decS x.f1.data.toList).2.2.2.2.2 == 0)
def addS (s : VS) (x : It) : VS := if (keptS x).f0 = 1 then (s.add (keptS x)).put1 (keptS x).f1 (inoS x.f1)
  else if (keptS x).f0 = 2 then (s.add (keptS x)).put2 (numS x.f1) (wrap64 (((s.up (numS x.f1)).getD (0, 0)).1 + 1), (keptS x).f1) else s.add (keptS x)
def parseS : List It → VS → Option VS
  | [], s => some s
  | x :: r, s => if okP x = true then parseS r (addS s x) else none
def Fit (l : List It) : Prop := ∀ x ∈ l, x.f0.size ≤ maxLen ∧ x.f1.size ≤ maxLen
theorem okP_key {x : It} (h : okP x = true) : rightK (keptS x).f0 (keptS x).f1 (keptS x).f2.data.toList (keptS x).f3 = true ∧ keyL (keptS x).f0 (keptS x).f1 (keptS x).f2.data.toList (keptS x).f3 = x.f0.data.toList ∧ (0 ≤ (keptS x).f1 ∧ (keptS x).f1 < 4294967296) ∧ 0 ≤ (keptS x).f3 := by
  unfold okP at h
  rw [Bool.and_eq_true] at h
  have := key_pars (l := x.f0.data.toList) rfl (eq_of_beq h.1)
  unfold keptS
  rw [ba_data]
  exact this
theorem addS_len (s : VS) (x : It) : (addS s x).all = s.all ++ [keptS x] := by
  unfold addS
  split
  · rfl
  · split <;> rfl
theorem parseL_f : ∀ (l : List It) (s : VS), Fit l → s.all.length + l.length ≤ 4398046511103 → Ev (fun k => parseL k l s) (parseS l s)
  | [], s, _, _ => Ev.const rfl
  | x :: r, s, hf, hl => by
    have hx := hf x (List.mem_cons_self ..)
    have hm : maxLen ≤ 9223372036854775807 := by decide
    simp only [List.length_cons] at hl
    refine Ev.congr (fun k => by rw [parseL]) ?_
    refine Ev.bind (parse_f x.f0 (by omega)) ?_
    unfold baK
    show Ev (fun k => if (parsS x.f0.data.toList).2.2.2.2 = 0 then _ else _) _
    by_cases hp : (parsS x.f0.data.toList).2.2.2.2 = 0
    · refine Ev.ifp hp ?_
      have hr := key_pars (l := x.f0.data.toList) rfl hp
      refine Ev.ifp ⟨hr.2.2.1.1, hr.2.2.1.2, by omega⟩ ?_
      have hlen : (addS s x).all.length + r.length ≤ 4398046511103 := by rw [addS_len, List.length_append, List.length_singleton]; omega
      have ih := parseL_f r (addS s x) (fun y hy => hf y (List.mem_cons_of_mem _ hy)) hlen
      rw [parseS]
      by_cases h1 : (parsS x.f0.data.toList).1 = 1
      · refine Ev.ifp h1 ?_
        refine Ev.bind (decode_f x.f1 (by omega)) ?_
        unfold baI
        by_cases hd : (decS x.f1.data.toList).2.2.2.2.2 = 0
        · refine Ev.ifp hd ?_
          rw [if_pos (by unfold okP; rw [hp, hd]; simp)]
          rw [show addS s x = (s.add (keptS x)).put1 (keptS x).f1 (inoS x.f1) from if_pos h1] at ih ⊢
          exact ih
        · refine Ev.ifn hd (Ev.const ?_)
          rw [if_neg (by unfold okP keptS; simp [hd, h1])]
      · refine Ev.ifn h1 ?_
        rw [if_pos (by unfold okP keptS; simp [hp, h1])]
        by_cases h2 : (parsS x.f0.data.toList).1 = 2
        · refine Ev.ifp h2 ?_
          refine Ev.bind (numS_f x.f1) ?_
          rw [show addS s x = (s.add (keptS x)).put2 (numS x.f1) (wrap64 (((s.up (numS x.f1)).getD (0, 0)).1 + 1), (keptS x).f1) from (if_neg h1).trans (if_pos h2)] at ih ⊢
          exact ih
        · refine Ev.ifn h2 ?_
          rw [show addS s x = s.add (keptS x) from (if_neg h1).trans (if_neg h2)] at ih ⊢
          exact ih
    · refine Ev.ifn hp (Ev.const ?_)
      rw [parseS, if_neg (by unfold okP; simp [hp])]
structure Inv (p : List It) (s : VS) : Prop where
  all : s.all = p.map keptS
  ok : ∀ x ∈ p, okP x = true
  src : ∀ a n, s.ino a = some n → ∃ x ∈ p, (keptS x).f0 = 1 ∧ (keptS x).f1 = a ∧ n = inoS x.f1
  has : ∀ x ∈ p, (keptS x).f0 = 1 → (s.ino (keptS x).f1).isSome = true
theorem Inv.add {p : List It} {s : VS} (h : Inv p s) {x : It} (hx : okP x = true) : Inv (p ++ [x]) (addS s x) := by
  refine ⟨by rw [addS_len, h.all, List.map_append]; rfl, fun y hy => ?_, fun a n hn => ?_, fun y hy h1 => ?_⟩
  · rcases List.mem_append.1 hy with hy | hy
    · exact h.ok y hy
    · rw [List.mem_singleton.1 hy]; exact hx
  · by_cases h1 : (keptS x).f0 = 1
    · rw [show addS s x = (s.add (keptS x)).put1 (keptS x).f1 (inoS x.f1) from if_pos h1] at hn
      have hn : (if a = (keptS x).f1 then some (inoS x.f1) else s.ino a) = some n := hn
      by_cases ha : a = (keptS x).f1
      · rw [if_pos ha] at hn
        exact ⟨x, by simp, h1, ha.symm, (Option.some.inj hn).symm⟩
      · rw [if_neg ha] at hn
        obtain ⟨y, hy, e⟩ := h.src a n hn
        exact ⟨y, by simp [hy], e⟩
    · have : s.ino a = some n := by
        rw [← hn]
        unfold addS
        rw [if_neg h1]
        split <;> rfl
      obtain ⟨y, hy, e⟩ := h.src a n this
      exact ⟨y, by simp [hy], e⟩
  · by_cases hk : (keptS x).f0 = 1
    · rw [show addS s x = (s.add (keptS x)).put1 (keptS x).f1 (inoS x.f1) from if_pos hk]
      show (if (keptS y).f1 = (keptS x).f1 then some (inoS x.f1) else s.ino (keptS y).f1).isSome = true
      split
      · rfl
      · rename_i hne
        rcases List.mem_append.1 hy with hy | hy
        · exact h.has y hy h1
        · rw [List.mem_singleton.1 hy] at hne; exact absurd rfl hne
    · have e : ∀ a, (addS s x).ino a = s.ino a := fun a => by
        unfold addS
        rw [if_neg hk]
        split <;> rfl
      rw [e]
      rcases List.mem_append.1 hy with hy | hy
      · exact h.has y hy h1
      · rw [List.mem_singleton.1 hy] at h1; exact absurd h1 hk
theorem parseS_inv : ∀ (l p : List It) (s s' : VS), Inv p s → parseS l s = some s' → Inv (p ++ l) s'
  | [], p, s, s', h, e => by rw [List.append_nil]; rw [← Option.some.inj e]; exact h
  | x :: r, p, s, s', h, e => by
    rw [parseS] at e
    by_cases hx : okP x = true
    · rw [if_pos hx] at e
      have := parseS_inv r (p ++ [x]) (addS s x) s' (h.add hx) e
      rwa [List.append_assoc, List.singleton_append] at this
    · rw [if_neg hx] at e; exact absurd e (by simp)
theorem inv0 : Inv [] VS0 := ⟨rfl, fun x h => (by cases h), fun a n h => (by cases h), fun x h => (by cases h)⟩
def fitsS (s : VS) (x : KItm) : Bool :=
  if x.f0 = 2 then (s.ino x.f1).isSome && (s.ino (numS x.f4)).isSome && ((s.ino x.f1).getD zI).kd == 1
  else if x.f0 = 3 then (s.ino x.f1).isSome && ((s.ino x.f1).getD zI).kd == 2 && decide (0 ≤ (x.f4.size : Int) - 1) && decide ((x.f4.size : Int) - 1 < 128) && bt x.f4 ((x.f4.size : Int) - 1) != 0 && decide (x.f3 * 128 + ((x.f4.size : Int) - 1) < ((s.ino x.f1).getD zI).sz)
  else if x.f0 = 4 then (s.ino x.f1).isSome && decide ((x.f4.size : Int) ≤ 64) else (s.ino x.f1).isSome
theorem inoS_sz (v : ByteArray) : 0 ≤ (inoS v).sz ∧ (inoS v).sz < 4294967296 := by
  unfold inoS
  show 0 ≤ (decS v.data.toList).2.2.2.1 ∧ (decS v.data.toList).2.2.2.1 < 4294967296
  unfold decS
  split
  · rename_i h; exact (f_range _ h.1).2.2.2
  · exact ⟨by decide, by decide⟩
theorem Inv.sz {p : List It} {s : VS} (h : Inv p s) (a : Int) : 0 ≤ ((s.ino a).getD zI).sz ∧ ((s.ino a).getD zI).sz < 4294967296 := by
  cases hn : s.ino a with
  | none => exact ⟨by decide, by decide⟩
  | some n =>
    obtain ⟨x, _, _, _, e⟩ := h.src a n hn
    rw [e]
    exact inoS_sz x.f1
theorem fits_f {p : List It} {s : VS} (h : Inv p s) {x : It} (hx : okP x = true) (hv : x.f1.size ≤ 65536) : Ev (fun k => fitsF k s (keptS x)) (fitsS s (keptS x)) := by
  unfold fitsF fitsS
  refine Ev.ite (fun h2 => ?_) (fun h2 => ?_)
  · rw [if_pos h2]
    exact Ev.bind (numS_f _) (Ev.const rfl)
  · rw [if_neg h2]
    refine Ev.ite (fun h3 => ?_) (fun h3 => ?_)
    · rw [if_pos h3]
      have hk := okP_key hx
      have hs := h.sz (keptS x).f1
      have hr := hk.1
      rw [h3] at hr
      unfold rightK at hr
      have hr := (of_decide_eq_true hr).2
      exact Ev.ifp ⟨hk.2.2.2, by omega, hs.1, hs.2, hv⟩ (Ev.const rfl)
    · rw [if_neg h3]
      refine Ev.ite (fun h4 => Ev.const (by rw [if_pos h4])) (fun h4 => Ev.const (by rw [if_neg h4]))
theorem misfit_f {p : List It} {s : VS} (h : Inv p s) : ∀ l : List It, (∀ x ∈ l, okP x = true ∧ x.f1.size ≤ 65536) → Ev (fun k => misfitL k s (l.map keptS)) (!(l.map keptS).all (fitsS s))
  | [], _ => Ev.const rfl
  | x :: r, hx => by
    have h1 := hx x (List.mem_cons_self ..)
    refine Ev.congr (fun k => by rw [List.map_cons, misfitL]) ?_
    refine Ev.bind (fits_f h h1.1 h1.2) ?_
    rw [List.map_cons, List.all_cons]
    refine Ev.ite (fun hb => ?_) (fun hb => ?_)
    · rw [hb, Bool.true_and]
      exact misfit_f h r (fun y hy => hx y (List.mem_cons_of_mem _ hy))
    · rw [(Bool.not_eq_true _).mp hb]; exact Ev.const rfl
def lookS (l : List It) : Option VS := match parseS l VS0 with
  | none => none
  | some s => if okL l = true ∧ ((s.ino 1).getD zI).kd = 1 ∧ s.all.all (fitsS s) = true ∧ lookAll s s.all = true then some s else none
theorem look_f (l : List It) (hf : Fit l) (hl : l.length ≤ 4398046511103) : Ev (fun k => lookF k l) (lookS l) := by
  unfold lookF parseF lookS
  have hp := parseL_f l VS0 hf (by show 0 + l.length ≤ _; omega)
  cases hs : parseS l VS0 with
  | none =>
    rw [hs] at hp
    exact Ev.bind (Ev.bind hp (Ev.const rfl)) (Ev.const rfl)
  | some s =>
    rw [hs] at hp
    have hi := parseS_inv l [] VS0 s inv0 hs
    rw [List.nil_append] at hi
    have hpf : Ev (fun k => (parseL k l VS0).bind fun o => match o with | none => some none | some s => (item_Check.f k l).bind fun c => if c = 0 ∧ ((s.ino 1).getD zI).kd = 1 then some (some s) else some none) (if okL l = true ∧ ((s.ino 1).getD zI).kd = 1 then some s else none) := by
      refine Ev.bind hp ?_
      refine Ev.bind (itCheck l (by omega)) ?_
      by_cases hk : okL l = true
      · rw [hk]
        refine Ev.ite (fun h => Ev.const (by rw [if_pos ⟨rfl, h.2⟩])) (fun h => Ev.const ?_)
        rw [if_neg (fun h' => h ⟨rfl, h'.2⟩)]
      · rw [(Bool.not_eq_true _).mp hk]
        exact Ev.ifn (fun h => absurd h.1 (by decide)) (Ev.const (by rw [if_neg (fun h' => absurd h'.1 (by decide))]))
    refine Ev.bind hpf ?_
    by_cases hk : okL l = true ∧ ((s.ino 1).getD zI).kd = 1
    · rw [if_pos hk]
      have hm := misfit_f hi l (fun x hx => ⟨hi.ok x hx, by
        have := ((okL_iff l).1 hk.1).1 x hx
        unfold okI at this
        simp only [Bool.and_eq_true, decide_eq_true_eq] at this
        omega⟩)
      rw [← hi.all] at hm
      refine Ev.bind hm ?_
      by_cases ha : s.all.all (fitsS s) = true
      · rw [ha]
        refine Ev.ifn (by decide) (Ev.const ?_)
        by_cases hq : lookAll s s.all = true
        · rw [if_pos hq]; simp only []; rw [if_pos ⟨hk.1, hk.2, ha, hq⟩]
        · rw [if_neg hq]; simp only []; rw [if_neg (fun h => hq h.2.2.2)]
      · rw [(Bool.not_eq_true _).mp ha]
        refine Ev.ifp rfl (Ev.const ?_)
        simp only []
        rw [if_neg (fun h => ha h.2.2.1)]
    · rw [if_neg hk]
      simp only []
      rw [if_neg (fun h => hk ⟨h.1, h.2.1⟩)]
      exact Ev.const rfl
structure Rt (l : List It) (s : VS) : Prop where
  inv : Inv l s
  ok : okL l = true
  root : ((s.ino 1).getD zI).kd = 1
  fits : ∀ x ∈ l, fitsS s (keptS x) = true
theorem look_rt {l : List It} {s : VS} (h : lookS l = some s) : Rt l s := by
  unfold lookS at h
  cases hs : parseS l VS0 with
  | none => rw [hs] at h; exact absurd h (by simp)
  | some s' =>
    rw [hs] at h
    simp only [] at h
    by_cases hc : okL l = true ∧ ((s'.ino 1).getD zI).kd = 1 ∧ s'.all.all (fitsS s') = true ∧ lookAll s' s'.all = true
    · rw [if_pos hc] at h
      obtain rfl := Option.some.inj h
      have hi := parseS_inv l [] VS0 s' inv0 hs
      rw [List.nil_append] at hi
      refine ⟨hi, hc.1, hc.2.1, fun x hx => ?_⟩
      have := hc.2.2.1
      rw [hi.all, List.all_map, List.all_eq_true] at this
      exact this x hx
    · rw [if_neg hc] at h; exact absurd h (by simp)
def entryS (l : List It) (i : Int) (nm : ByteArray) : Int := if rightK 2 i nm.data.toList 0 = true then numS ((look l (keyL 2 i nm.data.toList 0)).getD ⟨#[]⟩) else 0
theorem entry_f {l : List It} (hk : okL l = true) (hl : l.length ≤ 4398046511104) {i : Int} (hi : 0 ≤ i ∧ i < 4294967296) (nm : ByteArray) : Ev (fun k => entryF k l i nm) (entryS l i nm) := by
  unfold entryF
  refine Ev.bind (key_f 2 i nm 0 (by decide) hi (by decide)) ?_
  unfold keyS entryS
  by_cases hr : rightK 2 i nm.data.toList 0 = true
  · rw [if_pos hr, if_pos hr]
    refine Ev.ifp rfl ?_
    refine Ev.bind (itGet l hl _) ?_
    unfold getS
    rw [if_pos hk, ba_toList]
    cases look l (keyL 2 i nm.data.toList 0) with
    | none => exact numS_f _
    | some v => exact numS_f _
  · rw [if_neg hr, if_neg hr]
    exact Ev.ifn (by decide) (Ev.const rfl)
theorem entryS_range (l : List It) (i : Int) (nm : ByteArray) : 0 ≤ entryS l i nm ∧ entryS l i nm < 4294967296 := by
  unfold entryS
  split
  · have := numS_range ((look l (keyL 2 i nm.data.toList 0)).getD ⟨#[]⟩)
    omega
  · exact ⟨by decide, by decide⟩
theorem mem_of_look {l : List It} {k : List UInt8} {v : ByteArray} (h : look l k = some v) : ∃ x ∈ l, key x = k ∧ x.f1 = v := by
  unfold look at h
  obtain ⟨x, hx, rfl⟩ := Option.map_eq_some_iff.1 h
  have he := List.find?_some (p := fun x => key x == k) hx
  exact ⟨x, List.mem_of_find?_eq_some hx, eq_of_beq he, rfl⟩
theorem look_mem {l : List It} (ha : Asc l) {x : It} (h : x ∈ l) : look l (key x) = some x.f1 := by
  obtain ⟨j, hj, rfl⟩ := List.mem_iff_getElem.1 h
  exact look_at ha j hj
theorem Rt.kept {l : List It} {s : VS} (h : Rt l s) {x : It} (hx : x ∈ l) (h2 : (keptS x).f0 = 2) : entryS l (keptS x).f1 (keptS x).f2 = numS x.f1 ∧ (s.ino (keptS x).f1).isSome = true ∧ (s.ino (numS x.f1)).isSome = true ∧ ((s.ino (keptS x).f1).getD zI).kd = 1 := by
  have hk := okP_key (h.inv.ok x hx)
  have hr := hk.1
  rw [h2] at hr
  have h3 : (keptS x).f3 = 0 := by
    unfold rightK at hr
    have := (of_decide_eq_true hr).2
    omega
  rw [h3] at hr
  have hkey : key x = keyL 2 (keptS x).f1 (keptS x).f2.data.toList 0 := by
    show x.f0.toList = _
    rw [ByteArray.toList_eq, ← hk.2.1, h2, h3]
  have hf := h.fits x hx
  unfold fitsS at hf
  rw [if_pos h2] at hf
  simp only [Bool.and_eq_true] at hf
  refine ⟨?_, hf.1.1, hf.1.2, eq_of_beq hf.2⟩
  unfold entryS
  rw [if_pos hr, ← hkey, look_mem ((okL_iff l).1 h.ok).2 hx]
  rfl
theorem Rt.pos {l : List It} {s : VS} (h : Rt l s) {a : Int} (hs : (s.ino a).isSome = true) : 0 < a ∧ a < 4294967296 := by
  obtain ⟨n, hn⟩ := Option.isSome_iff_exists.1 hs
  obtain ⟨x, hx, h1, rfl, _⟩ := h.inv.src a n hn
  have hk := okP_key (h.inv.ok x hx)
  have hr := hk.1
  unfold rightK at hr
  exact ⟨(of_decide_eq_true hr).1, hk.2.2.1.2⟩
abbrev VS.kd (s : VS) (a : Int) : Int := ((s.ino a).getD zI).kd
def tgS (s : VS) (t : Int) : List ByteArray × Int := baP (pathSpec ((s.ino t).getD zI).tg.data.toList)
def linkS (rec : Option (List ByteArray → Int × Int)) (p : List ByteArray × Int) (r : List ByteArray) : Int × Int := match rec with
  | none => (0, 15)
  | some R => if p.2 = 0 then R (p.1 ++ r) else (0, p.2)
def goS (l : List It) (s : VS) (follow : Bool) (rec : Option (List ByteArray → Int × Int)) : List ByteArray → Int → Int × Int
  | [], a => (a, 0)
  | x :: r, a => if s.kd a = 1 then (if entryS l a x = 0 then (0, 5) else if s.kd (entryS l a x) = 3 ∧ ¬ (r = [] ∧ follow = false) then
      linkS rec (tgS s (entryS l a x)) r
      else goS l s follow rec r (entryS l a x)) else (0, 12)
def walkS (l : List It) (s : VS) (follow : Bool) : Nat → List ByteArray → Int → Int × Int
  | 0, ns, a => goS l s follow none ns a
  | b + 1, ns, a => goS l s follow (some fun m => walkS l s follow b m 1) ns a
theorem tgS_len (s : VS) (t : Int) : (tgS s t).1.length ≤ 300 := by
  unfold tgS baP
  rw [List.length_map]
  rcases path_cases ((s.ino t).getD zI).tg.data.toList with h | ⟨_, h⟩ | ⟨rest, h0, _, h1, h2, h3⟩
  · rw [h.2]; decide
  · rw [h]; decide
  · rw [h3]
    have hj := congrArg List.length (joinL_splitL rest)
    rw [joinL_length, List.length_cons] at hj
    rw [h0, List.length_cons] at h1
    show (splitL rest).length ≤ 300
    omega
theorem walk_f {l : List It} {s : VS} (h : Rt l s) (hl : l.length ≤ 4398046511104) (follow : Bool) : ∀ (b : Nat) (ns : List ByteArray) (a : Int), (0 ≤ a ∧ a < 4294967296) → ns.length + 300 * b ≤ 10995116277760 → b ≤ 8 →
    Ev (fun k => walkL l s follow k ns a (8 - (b : Int))) (walkS l s follow b ns a) := by
  have go : ∀ (b : Nat) (rec : Option (List ByteArray → Int × Int)), b ≤ 8 → (rec = none → b = 0) → (∀ R, rec = some R → ∃ c, b = c + 1 ∧ ∀ m, m.length + 300 * c ≤ 10995116277760 → Ev (fun k => walkL l s follow k m 1 (8 - (c : Int))) (R m)) →
      ∀ (ns : List ByteArray) (a : Int), (0 ≤ a ∧ a < 4294967296) → ns.length + 300 * b ≤ 10995116277760 → Ev (fun k => walkL l s follow k ns a (8 - (b : Int))) (goS l s follow rec ns a) := by
    intro b rec hb h0 hR ns
    induction ns with
    | nil => intro a ha hn; exact Ev.step (f := fun _ => some (a, 0)) (fun k => by rw [walkL]) (Ev.now _)
    | cons x r ih =>
      intro a ha hn
      rw [List.length_cons] at hn
      refine Ev.step (fun k => by rw [walkL]) ?_
      rw [goS]
      by_cases hd : s.kd a = 1
      · rw [if_pos hd]
        refine Ev.ifp hd ?_
        refine Ev.bind (entry_f h.ok hl ha x) ?_
        by_cases ht : entryS l a x = 0
        · rw [if_pos ht]; exact Ev.ifp ht (Ev.const rfl)
        · rw [if_neg ht]
          refine Ev.ifn ht ?_
          by_cases hk : s.kd (entryS l a x) = 3 ∧ ¬ (r = [] ∧ follow = false)
          · rw [if_pos hk]
            refine Ev.ifp hk ?_
            cases rec with
            | none =>
              have := h0 rfl
              exact Ev.ifp (by omega) (Ev.const rfl)
            | some R =>
              obtain ⟨c, rfl, hc⟩ := hR R rfl
              refine Ev.ifn (by omega) ?_
              refine Ev.bind (split_f _) ?_
              have e : baP (pathSpec ((s.ino (entryS l a x)).getD zI).tg.data.toList) = tgS s (entryS l a x) := rfl
              rw [e]
              have hlen := tgS_len s (entryS l a x)
              unfold linkS
              by_cases hz : (tgS s (entryS l a x)).2 = 0
              · simp only [if_pos hz]
                refine Ev.ifp (by omega) ?_
                rw [show (8 : Int) - ((c + 1 : Nat) : Int) + 1 = 8 - (c : Int) by omega]
                exact hc _ (by rw [List.length_append]; omega)
              · simp only [if_neg hz]
                exact Ev.const rfl
          · rw [if_neg hk]
            refine Ev.ifn hk ?_
            exact ih _ (entryS_range l a x) (by omega)
      · rw [if_neg hd]; exact Ev.ifn hd (Ev.const rfl)
  intro b
  induction b with
  | zero => intro ns a ha hn hb; exact go 0 none hb (fun _ => rfl) (fun R e => by cases e) ns a ha hn
  | succ c ih => intro ns a ha hn hb; exact go (c + 1) _ hb (fun e => by cases e) (fun R e => ⟨c, rfl, fun m hm => by cases e; exact ih m 1 ⟨by decide, by decide⟩ hm (by omega)⟩) ns a ha hn
theorem Check_f {l : List It} (hf : Fit l) (hl : l.length ≤ 4398046511103) : Ev (fun k => dirs_Check.f k l) (match lookS l with | none => 9 | some _ => 0) := by
  unfold dirs_Check.f
  refine Ev.bind (look_f l hf hl) ?_
  cases lookS l <;> exact Ev.const rfl
def getR (o : Option VS) (a : Int) : Int × Int × Int × Int × ByteArray × Int := match o with
  | none => (0, 0, 0, 0, ⟨#[]⟩, 9)
  | some s => match s.ino a with | none => (0, 0, 0, 0, ⟨#[]⟩, 5) | some n => (n.kd, n.md, n.ln, n.sz, n.tg, 0)
theorem Get_f {l : List It} (hf : Fit l) (hl : l.length ≤ 4398046511103) {a : Int} (ha : 0 ≤ a ∧ a < 4294967296) : Ev (fun k => dirs_Get.f k l a) (getR (lookS l) a) := by
  unfold dirs_Get.f getR
  refine Ev.ifp ha ?_
  refine Ev.bind (look_f l hf hl) ?_
  cases lookS l with
  | none => exact Ev.const rfl
  | some s =>
    simp only []
    cases s.ino a <;> exact Ev.const rfl
def walkR (l : List It) (ns : List ByteArray) (follow : Bool) : Int × Int := match lookS l with | none => (0, 9) | some s => walkS l s follow 8 ns 1
theorem Walk_f {l : List It} (hf : Fit l) (hl : l.length ≤ 4398046511103) (ns : List ByteArray) (hn : ns.length ≤ 8796093022208) (follow : Bool) : Ev (fun k => dirs_Walk.f k l ns follow) (walkR l ns follow) := by
  unfold dirs_Walk.f walkR
  refine Ev.bind (look_f l hf hl) ?_
  cases h : lookS l with
  | none => exact Ev.const rfl
  | some s => exact walk_f (look_rt h) (by omega) follow 8 ns 1 ⟨by decide, by decide⟩ (by omega) (by decide)
def entS (s : VS) (x : KItm) : S43 := ⟨x.f2, numS x.f4, s.kd (numS x.f4)⟩
def listS (s : VS) (a : Int) : List S43 := (s.all.filter (fun x => x.f0 == 2 && x.f1 == a)).map (entS s)
theorem listL_f (s : VS) (a : Int) : ∀ (r : List KItm) (acc : List S43), acc.length + r.length ≤ 4398046511103 → Ev (fun k => listL k s a r acc) (acc ++ (r.filter (fun x => x.f0 == 2 && x.f1 == a)).map (entS s))
  | [], acc, _ => Ev.congr (fun k => by rw [listL]) (Ev.const (by simp))
  | x :: r, acc, h => by
    rw [List.length_cons] at h
    refine Ev.congr (fun k => by rw [listL]) ?_
    by_cases hx : x.f0 = 2 ∧ x.f1 = a
    · refine Ev.ifp hx ?_
      refine Ev.bind (numS_f x.f4) ?_
      refine Ev.ifp (by omega) ?_
      refine Ev.val (listL_f s a r _ (by rw [List.length_append, List.length_singleton]; omega)) ?_
      rw [List.filter_cons_of_pos (by simp [hx.1, hx.2]), List.map_cons, List.append_assoc]
      rfl
    · refine Ev.ifn hx ?_
      refine Ev.val (listL_f s a r acc (by omega)) ?_
      rw [List.filter_cons_of_neg (by simpa using hx)]
def listR (o : Option VS) (a : Int) : List S43 × Int := match o with
  | none => ([], 9)
  | some s => match s.ino a with | none => ([], 5) | some n => if n.kd = 1 then (listS s a, 0) else ([], 12)
theorem List_f {l : List It} (hf : Fit l) (hl : l.length ≤ 4398046511103) {a : Int} (ha : 0 ≤ a ∧ a < 4294967296) : Ev (fun k => dirs_List.f k l a) (listR (lookS l) a) := by
  unfold dirs_List.f listR
  refine Ev.ifp ha ?_
  refine Ev.bind (look_f l hf hl) ?_
  cases h : lookS l with
  | none => exact Ev.const rfl
  | some s =>
    simp only []
    cases s.ino a with
    | none => exact Ev.const rfl
    | some n =>
      show Ev _ (if n.kd = 1 then (listS s a, (0 : Int)) else ([], 12))
      refine Ev.ite (fun hk => ?_) (fun hk => Ev.const (by rw [if_neg hk]))
      rw [if_pos hk]
      have hlen : s.all.length = l.length := by rw [(look_rt h).inv.all, List.length_map]
      refine Ev.bind (listL_f s a s.all [] (by rw [List.length_nil]; omega)) (Ev.const ?_)
      rw [List.nil_append]
      rfl
theorem nextL_f (ino : Int → Option INd) : ∀ (j : Nat) (n : Int), 0 ≤ n → n + j < 4294967296 → (ino (n + j)).isSome = false → ∃ r, Ev (fun k => nextL ino k n) r ∧ n ≤ r ∧ r ≤ n + j ∧ (ino r).isSome = false ∧ ∀ m, n ≤ m → m < r → (ino m).isSome = true
  | 0, n, h0, hj, hn => ⟨n, Ev.step (fun k => by rw [nextL]) (Ev.ifn (by rw [show n + ((0 : Nat) : Int) = n by omega] at hn; rw [hn]; decide) (Ev.const rfl)), by omega, by omega, by rwa [show n + ((0 : Nat) : Int) = n by omega] at hn, fun m h1 h2 => by omega⟩
  | j + 1, n, h0, hj, hn => by
    cases hs : (ino n).isSome with
    | false => exact ⟨n, Ev.step (fun k => by rw [nextL]) (Ev.ifn (by rw [hs]; decide) (Ev.const rfl)), by omega, by omega, hs, fun m h1 h2 => by omega⟩
    | true =>
      obtain ⟨r, hr, h1, h2, h3, h4⟩ := nextL_f ino j (n + 1) (by omega) (by omega) (by rwa [show n + 1 + (j : Int) = n + ((j + 1 : Nat) : Int) by omega])
      refine ⟨r, Ev.step (fun k => by rw [nextL]) (Ev.ifp hs ?_), by omega, by omega, h3, fun m hm1 hm2 => ?_⟩
      · rw [show (n + 1) % 4294967296 = n + 1 by omega]; exact hr
      · by_cases he : m = n
        · rw [he]; exact hs
        · exact h4 m (by omega) hm2
end Go.Proofs.YtpnmajblhgnkoaaGreat.Z
end

section
namespace Go.Proofs.YtpnmajblhgnkoaaGreat.Z
attribute [local go_sem] max2_int min2_int max_two min_two max_three min_three max_four min_four   -- for this text's walks alone
def cambiumref04_key.f (a0 : ByteArray) : Option (Bool) := if a0.toList = ([] : List UInt8) then (some false) else (some (decide ((a0.size : Int) ≤ 48)))
set_option maxHeartbeats 8000000 in
set_option maxRecDepth 100000 in
theorem cambiumref04_key.calls (a0 : ByteArray) (r : Bool) (w : World) (h : cambiumref04_key.f a0 = some r) :
  Calls Tryz.prog 47 #[.string a0] w fun e w' => e = .returned (.bool r) ∧ Drawn0 w w' := by
 have H : (if a0.toList = ([] : List UInt8) then (some false) else (some (decide ((a0.size : Int) ≤ 48)))) = some r := h
 clear h
 by_cases c2 : a0.toList = ([] : List UInt8)
 ·rw [if_pos c2] at H
  have c2b0 : (a0.toList == ([] : List UInt8)) = true := beq_iff_eq.mpr c2
  have c2b1 : (a0.toList != ([] : List UInt8)) = false := bne_eq_false_iff_eq.mpr c2
  clear c2
  obtain rfl := Option.some.inj H
  go_enter Tryz.func47, Tryz.ntmps47
  go_wp2
  go_ret
  exact ⟨by first | rfl | (simp; done) | (simp [*]; done), by repeat (first | exact Drawn0.refl _ | apply Drawn0.step)⟩
 rw [if_neg c2] at H
 have c2b0 : (a0.toList == ([] : List UInt8)) = false := beq_eq_false_iff_ne.mpr c2
 have c2b1 : (a0.toList != ([] : List UInt8)) = true := bne_iff_ne.mpr c2
 obtain rfl := Option.some.inj H
 go_enter Tryz.func47, Tryz.ntmps47
 go_wp2
 go_ret
 exact ⟨by first | rfl | (simp; done) | (simp [*]; done), by repeat (first | exact Drawn0.refl _ | apply Drawn0.step)⟩
end Go.Proofs.YtpnmajblhgnkoaaGreat.Z
end
