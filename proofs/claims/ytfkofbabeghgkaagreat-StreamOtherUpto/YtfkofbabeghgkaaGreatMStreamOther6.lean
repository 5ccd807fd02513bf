/- StreamOtherUpto: at every input the law's function returns true and leaves its arguments as they were; condition: the arguments are of bulk at most 1048576. Part 6 of 6: this session's own texts, laid together. -/
import Derived.Test.YtfkofbabeghgkaaGreatMB5
import Derived.Test.YtfkofbabeghgkaaGreatRows
import Derived.WalkKit
import Derived.ProofKit
import Derived.OpenShut
import Derived.ShutString
import Derived.ChangeOld
import Derived.Below
import Derived.SizedLaws
import Derived.Carry
import Derived.JoinedCond
import Derived.Deep.CondSized
open Go.RowKit Go.Proofs.YtfkofbabeghgkaaGreatW.PrintWords Go.Proofs.YtfkofbabeghgkaaGreatW.PrintLast Go.Proofs.YtfkofbabeghgkaaGreatW.PrintMore
set_option linter.unusedVariables false
set_option linter.unusedSimpArgs false
section
namespace Go.Proofs.YtfkofbabeghgkaaGreat.Z
open Go.Proofs.YtfkofbabeghgkaaGreat.PM
open Classical in
noncomputable def cambiumlaw18_StreamOther.f (l0 : List S77) (l1 : List S77) (l2 : List S77) : Option Bool := if Sm l0 ∧ Sm l1 ∧ Sm l2 then some true else none
set_option maxRecDepth 100000 in
set_option maxHeartbeats 6400000 in
theorem cambiumlaw18_StreamOther.calls (A0 : Option Addr) (c0 : Nat) (l0 : List S77) (A1 : Option Addr) (c1 : Nat) (l1 : List S77) (A2 : Option Addr) (c2 : Nat) (l2 : List S77) (r : Bool) (w : World) (hr0 : Kd.C k77 w A0 l0.length l0) (hc0 : l0.length ≤ c0) (hr1 : Kd.C k77 w A1 l1.length l1) (hc1 : l1.length ≤ c1) (hr2 : Kd.C k77 w A2 l2.length l2) (hc2 : l2.length ≤ c2) (h : cambiumlaw18_StreamOther.f l0 l1 l2 = some r) : Calls Tryz.prog 7 #[.slice A0 l0.length c0, .slice A1 l1.length c1, .slice A2 l2.length c2] w fun e w' => e = .returned (.bool r) ∧ Below w.heap.size w w' := by
  unfold cambiumlaw18_StreamOther.f at h
  by_cases hsm : Sm l0 ∧ Sm l1 ∧ Sm l2
  rotate_left
  · rw [if_neg hsm] at h; cases h
  rw [if_pos hsm] at h
  obtain rfl := Option.some.inj h
  clear h
  have HC0 := ak_ hr0
  have HP0 := ak_ hc0
  have HC1 := ak_ hr1
  have HP1 := ak_ hc1
  have HC2 := ak_ hr2
  have HP2 := ak_ hc2
  clear hr0 hc0 hr1 hc1 hr2 hc2
  cases hs : sendB mkY rtB l0 l1 with
  | none =>
    obtain ⟨k1, h1⟩ := send_no hsm.1 hsm.2.1 hs
    have H1 := ak_ h1
    clear hs h1
    go_enter Tryz.func7, Tryz.ntmps7
    go_wp2_with (first
      | (go_at_call 18; refine (cambiumlaw18_lives.calls true _ rfl).mono ?_; rintro e w1 ⟨rfl, hb⟩; have B1 := ak_ hb; clear hb)
      | (go_at_call 10; (with_reducible refine (stream_Send.calls k1 A0 c0 l0 A1 c1 l1 ⟨#[]⟩ 9 _ (Kd.C_below HC0.out B1.out) HP0.out (Kd.C_below HC1.out B1.out) HP1.out H1.out).mono ?_); rintro e w2 ⟨rfl, hb⟩; have B2 := ak_ (below_step B1.out hb); clear hb))
    go_ret
    exact ⟨rfl, B2.out⟩
  | some s =>
    obtain ⟨hoa, hob, hrb, hma, _, hrd⟩ := send_parts hsm.1 hsm.2.1 hs
    have hln := send_len hsm.1 hsm.2.1 hs
    obtain ⟨k1, h1⟩ := send_yes hsm.1 hsm.2.1 hs
    obtain ⟨k2, h2⟩ := mark_yes hsm.1 hoa
    have hmb : mayB rtB l1 = true := by unfold mayB; rw [hrb, Bool.or_true]
    have hu : sendB mkY rtB l1 l1 = some (strB (mkY l1) (diffL l1 l1)) := if_pos ⟨hmb, hrb⟩
    have hlu := send_len hsm.2.1 hsm.2.1 hu
    have h42 := str_same (mk := mkY) mkY_len l1
    obtain ⟨k5, h5⟩ := send_yes hsm.2.1 hsm.2.1 hu
    obtain ⟨k6, h6⟩ := recv_yes hsm.2.1 (by omega) (recv_sent (mk := mkY) (rt := rtB) mkY_len rtB_ok (by have := hsm.2.1.2; omega) hu)
    obtain ⟨k7, h7⟩ := same_yes (l := l1) (by have := hsm.2.1.2; omega)
    obtain ⟨k4, m4, w4_, h4, hw4⟩ := recv_what (s := s) hsm.2.2 (by omega)
    have hne : w4_ = 0 → mkB l0 = mkB l2 := fun hz => by
      have := recv_other (mk := mkY) (rt := rtB) mkY_len rtB_ok (by have := hsm.1.2; have := hsm.2.1.2; omega) hs (hw4 hz)
      rw [← mkY_ints l0, ← mkY_ints l2, this]
    obtain ⟨S, hS⟩ : ∃ S, S = ba s := ⟨_, rfl⟩
    obtain ⟨U, hU⟩ : ∃ U, U = ba (strB (mkY l1) (diffL l1 l1)) := ⟨_, rfl⟩
    rw [← hS] at h1 h4
    rw [← hU] at h5 h6
    have HSS := ak_ (show S.size ≤ 4611686018427387904 by rw [hS, ba_size]; omega)
    have HUS := ak_ (show U.size ≤ 4611686018427387904 by rw [hU, ba_size]; omega)
    have uz : U.size = 42 := by rw [hU, ba_size]; exact h42
    have u1 : ((U.size : Int) == 42) = true := beq_iff_eq.2 (by omega)
    have u2 : (U.size : Int) = 42 := by omega
    have H1 := ak_ h1
    have H2 := ak_ h2
    have H4 := ak_ h4
    have H5 := ak_ h5
    have H6 := ak_ h6
    have H7 := ak_ h7
    obtain ⟨vlm, hvlm⟩ : ∃ v : List Value, v = (mkB l0).map (fun x => Value.int .u8 x) := ⟨_, rfl⟩
    have HVm := ak_ (show arrV (mkB l0) = vlm.toArray by rw [hvlm]; rfl)
    have HVSm := ak_ (show vlm.toArray.size = 32 by rw [← HVm.out, arrV_size]; exact mkB_len l0)
    have HVOm := ak_ (show vlm.toArray.toList.all Value.oneCell' = true by rw [← HVm.out]; simpa using arrV_one (mkB l0))
    have HVLm := ak_ (show (Tryz.prog.info? 28).map (·.size) = some vlm.length by rw [hvlm, List.length_map]; rw [show (mkB l0).length = 32 from mkB_len l0]; exact info32)
    clear hvlm
    clear hS hU h42 hoa hob hrb hma hmb hrd hln hlu hu h1 h2 h4 h5 h6 h7 hw4 uz u2
    by_cases hoo : okL l2 = true
    rotate_left
    · obtain ⟨k3, h3⟩ := mark_no hsm.2.2 hoo
      have H3 := ak_ h3
      obtain ⟨vlo, hvlo⟩ : ∃ v : List Value, v = (List.replicate 32 (0 : Int)).map (fun x => Value.int .u8 x) := ⟨_, rfl⟩
      have HVo := ak_ (show arrV (List.replicate 32 (0 : Int)) = vlo.toArray by rw [hvlo]; rfl)
      have HVSo := ak_ (show vlo.toArray.size = 32 by rw [← HVo.out, arrV_size]; exact List.length_replicate)
      have HVOo := ak_ (show vlo.toArray.toList.all Value.oneCell' = true by rw [← HVo.out]; simpa using arrV_one (List.replicate 32 (0 : Int)))
      have HVLo := ak_ (show (Tryz.prog.info? 28).map (·.size) = some vlo.length by rw [hvlo, List.length_map]; rw [show (List.replicate 32 (0 : Int)).length = 32 from List.length_replicate]; exact info32)
      clear hvlo
      clear h3 hne hoo hs hsm
      go_enter Tryz.func7, Tryz.ntmps7
      go_wp2_with (first
        | (go_at_call 18; refine (cambiumlaw18_lives.calls true _ rfl).mono ?_; rintro e w1 ⟨rfl, hb⟩; have B1 := ak_ hb; clear hb)
        | (go_at_call 10; (with_reducible refine (stream_Send.calls k1 A0 c0 l0 A1 c1 l1 S 0 _ (Kd.C_below HC0.out B1.out) HP0.out (Kd.C_below HC1.out B1.out) HP1.out H1.out).mono ?_); rintro e w2 ⟨rfl, hb⟩; have B2 := ak_ (below_step B1.out hb); clear hb)
        | (go_at_call 16; (with_reducible refine (stream_Mark.calls k2 A0 c0 l0 (mkB l0) 0 _ (Kd.C_below HC0.out B2.out) HP0.out H2.out).mono ?_); rintro e w3 ⟨rfl, hb⟩; rw [HVm.out]; have B3 := ak_ (below_step B2.out hb); clear hb)
        | ((with_reducible refine gate_dst (N := 9) rfl ?_); refine var_event (N := 9) (T := 28) (n := 32) (zc := arrV (List.replicate 32 0)) (cs := vlm.toArray) rfl rfl rfl (.tmp 32) rfl rfl ?hr info32 (by simp [arrV_size]) HVSm.out HVOm.out ?hx ?hN ?_; (case hx => intro p_; rfl); (case hN => intro p_; rfl); (case hr => first | (go_simp; done) | (go_simp; rfl)); intro gx hg_ w4 hx hb; have x_4 := ak_ hx; have B4 := ak_ (below_step B3.out hb); clear hx hb hg_)
        | (go_at_call 16; (with_reducible refine (stream_Mark.calls k3 A2 c2 l2 (List.replicate 32 (0 : Int)) 4 _ (Kd.C_below HC2.out B4.out) HP2.out H3.out).mono ?_); rintro e w5 ⟨rfl, hb⟩; rw [HVo.out]; have B5 := ak_ (below_step B4.out hb); have x_5 := ak_ (blk_below x_4.out hb); clear hb)
        | ((with_reducible refine gate_dst (N := 11) rfl ?_); refine var_event (N := 11) (T := 28) (n := 32) (zc := arrV (List.replicate 32 0)) (cs := vlo.toArray) rfl rfl rfl (.tmp 37) rfl rfl ?hr info32 (by simp [arrV_size]) HVSo.out HVOo.out ?hx ?hN ?_; (case hx => intro p_; rfl); (case hN => intro p_; rfl); (case hr => first | (go_simp; done) | (go_simp; rfl)); intro gy hg_ w6 hx hb; have y_6 := ak_ hx; have B6 := ak_ (below_step B5.out hb); have x_6 := ak_ (blk_below x_5.out hb); clear hx hb hg_)
        | (go_at_call 12; (with_reducible refine (stream_Receive.calls k4 A2 c2 l2 S m4 w4_ _ (Kd.C_below HC2.out B6.out) HP2.out HSS.out H4.out).mono ?_); rintro e w7 ⟨v7, rfl, hR, hb⟩; have B7 := ak_ (below_step B6.out hb); have x_7 := ak_ (blk_below x_6.out hb); have y_7 := ak_ (blk_below y_6.out hb); clear hb hR)
        | (go_at_call 10; (with_reducible refine (stream_Send.calls k5 A1 c1 l1 A1 c1 l1 U 0 _ (Kd.C_below HC1.out B7.out) HP1.out (Kd.C_below HC1.out B7.out) HP1.out H5.out).mono ?_); rintro e w8 ⟨rfl, hb⟩; have B8 := ak_ (below_step B7.out hb); clear hb)
        | (go_at_call 12; (with_reducible refine (stream_Receive.calls k6 A1 c1 l1 U l1 0 _ (Kd.C_below HC1.out B8.out) HP1.out HUS.out H6.out).mono ?_); rintro e w9 ⟨v9, rfl, hR, hb⟩; obtain ⟨Az, cz, rfl⟩ := Kd.R_slice hR; have Lz_9 := ak_ (Kd.R_reads' hR).2.2; have Pz := ak_ (Kd.R_reads' hR).2.1; have B9 := ak_ (below_step B8.out hb); clear hb hR)
        | (go_at_call 19; refine (cambiumref04_Same.calls k7 Az cz l1 A1 c1 l1 true _ Lz_9.out Pz.out (Kd.C_below HC1.out B9.out) HP1.out H7.out).mono ?_; rintro e w10 ⟨rfl, hd⟩; have B10 := ak_ (below_step B9.out hd.below); have hb := hd.below; clear hd hb))
      go_ret
      exact ⟨rfl, B10.out⟩
    · obtain ⟨k3, h3⟩ := mark_yes hsm.2.2 hoo
      have H3 := ak_ h3
      obtain ⟨vlo, hvlo⟩ : ∃ v : List Value, v = (mkB l2).map (fun x => Value.int .u8 x) := ⟨_, rfl⟩
      have HVo := ak_ (show arrV (mkB l2) = vlo.toArray by rw [hvlo]; rfl)
      have HVSo := ak_ (show vlo.toArray.size = 32 by rw [← HVo.out, arrV_size]; exact mkB_len l2)
      have HVOo := ak_ (show vlo.toArray.toList.all Value.oneCell' = true by rw [← HVo.out]; simpa using arrV_one (mkB l2))
      have HVLo := ak_ (show (Tryz.prog.info? 28).map (·.size) = some vlo.length by rw [hvlo, List.length_map]; rw [show (mkB l2).length = 32 from mkB_len l2]; exact info32)
      clear hvlo
      by_cases hq : mkB l0 = mkB l2
      · have nq : ∀ W : World, (binOp .neq 28 (.agg vlm.toArray) (.agg vlo.toArray)).run Tryz.prog W = .ok (.bool false) W := fun W => by
          rw [← HVm.out, ← HVo.out, neq_arr _ _ (mkB_len l0) (mkB_len l2) W, bne_eq_false_iff_eq.2 hq]
        clear h3 hne hoo hs hsm hq
        go_enter Tryz.func7, Tryz.ntmps7
        go_wp2_with (first
          | (go_at_call 18; refine (cambiumlaw18_lives.calls true _ rfl).mono ?_; rintro e w1 ⟨rfl, hb⟩; have B1 := ak_ hb; clear hb)
          | (go_at_call 10; (with_reducible refine (stream_Send.calls k1 A0 c0 l0 A1 c1 l1 S 0 _ (Kd.C_below HC0.out B1.out) HP0.out (Kd.C_below HC1.out B1.out) HP1.out H1.out).mono ?_); rintro e w2 ⟨rfl, hb⟩; have B2 := ak_ (below_step B1.out hb); clear hb)
          | (go_at_call 16; (with_reducible refine (stream_Mark.calls k2 A0 c0 l0 (mkB l0) 0 _ (Kd.C_below HC0.out B2.out) HP0.out H2.out).mono ?_); rintro e w3 ⟨rfl, hb⟩; rw [HVm.out]; have B3 := ak_ (below_step B2.out hb); clear hb)
          | ((with_reducible refine gate_dst (N := 9) rfl ?_); refine var_event (N := 9) (T := 28) (n := 32) (zc := arrV (List.replicate 32 0)) (cs := vlm.toArray) rfl rfl rfl (.tmp 32) rfl rfl ?hr info32 (by simp [arrV_size]) HVSm.out HVOm.out ?hx ?hN ?_; (case hx => intro p_; rfl); (case hN => intro p_; rfl); (case hr => first | (go_simp; done) | (go_simp; rfl)); intro gx hg_ w4 hx hb; have x_4 := ak_ hx; have B4 := ak_ (below_step B3.out hb); clear hx hb hg_)
          | (go_at_call 16; (with_reducible refine (stream_Mark.calls k3 A2 c2 l2 (mkB l2) 0 _ (Kd.C_below HC2.out B4.out) HP2.out H3.out).mono ?_); rintro e w5 ⟨rfl, hb⟩; rw [HVo.out]; have B5 := ak_ (below_step B4.out hb); have x_5 := ak_ (blk_below x_4.out hb); clear hb)
          | ((with_reducible refine gate_dst (N := 11) rfl ?_); refine var_event (N := 11) (T := 28) (n := 32) (zc := arrV (List.replicate 32 0)) (cs := vlo.toArray) rfl rfl rfl (.tmp 37) rfl rfl ?hr info32 (by simp [arrV_size]) HVSo.out HVOo.out ?hx ?hN ?_; (case hx => intro p_; rfl); (case hN => intro p_; rfl); (case hr => first | (go_simp; done) | (go_simp; rfl)); intro gy hg_ w6 hx hb; have y_6 := ak_ hx; have B6 := ak_ (below_step B5.out hb); have x_6 := ak_ (blk_below x_5.out hb); clear hx hb hg_)
          | (go_at_call 12; (with_reducible refine (stream_Receive.calls k4 A2 c2 l2 S m4 w4_ _ (Kd.C_below HC2.out B6.out) HP2.out HSS.out H4.out).mono ?_); rintro e w7 ⟨v7, rfl, hR, hb⟩; have B7 := ak_ (below_step B6.out hb); have x_7 := ak_ (blk_below x_6.out hb); have y_7 := ak_ (blk_below y_6.out hb); clear hb hR)
          | ((with_reducible refine gate_dst (N := 52) rfl ?_); refine load_mid_g (by rfl) 28 (.tmp 9) rfl gx 0 rfl vlm _ (fun j u hu => by rw [Nat.zero_add, blk_cell x_7.out, List.getElem?_toArray]; exact hu) Tryz.underlying28 rfl HVLm.out ?_)
          | ((with_reducible refine gate_dst (N := 53) rfl ?_); refine load_mid_g (by rfl) 28 (.tmp 11) rfl gy 0 rfl vlo _ (fun j u hu => by rw [Nat.zero_add, blk_cell y_7.out, List.getElem?_toArray]; exact hu) Tryz.underlying28 rfl HVLo.out ?_)
          | (go_at_call 10; (with_reducible refine (stream_Send.calls k5 A1 c1 l1 A1 c1 l1 U 0 _ (Kd.C_below HC1.out B7.out) HP1.out (Kd.C_below HC1.out B7.out) HP1.out H5.out).mono ?_); rintro e w8 ⟨rfl, hb⟩; have B8 := ak_ (below_step B7.out hb); clear hb)
          | (go_at_call 12; (with_reducible refine (stream_Receive.calls k6 A1 c1 l1 U l1 0 _ (Kd.C_below HC1.out B8.out) HP1.out HUS.out H6.out).mono ?_); rintro e w9 ⟨v9, rfl, hR, hb⟩; obtain ⟨Az, cz, rfl⟩ := Kd.R_slice hR; have Lz_9 := ak_ (Kd.R_reads' hR).2.2; have Pz := ak_ (Kd.R_reads' hR).2.1; have B9 := ak_ (below_step B8.out hb); clear hb hR)
          | (go_at_call 19; refine (cambiumref04_Same.calls k7 Az cz l1 A1 c1 l1 true _ Lz_9.out Pz.out (Kd.C_below HC1.out B9.out) HP1.out H7.out).mono ?_; rintro e w10 ⟨rfl, hd⟩; have B10 := ak_ (below_step B9.out hd.below); have hb := hd.below; clear hd hb))
        go_ret
        exact ⟨rfl, B10.out⟩
      · have nq : ∀ W : World, (binOp .neq 28 (.agg vlm.toArray) (.agg vlo.toArray)).run Tryz.prog W = .ok (.bool true) W := fun W => by
          rw [← HVm.out, ← HVo.out, neq_arr _ _ (mkB_len l0) (mkB_len l2) W, bne_iff_ne.2 hq]
        have hw0 : (w4_ == 0) = false := beq_eq_false_iff_ne.2 (fun hz => hq (hne hz))
        clear h3 hne hoo hs hsm hq
        go_enter Tryz.func7, Tryz.ntmps7
        go_wp2_with (first
          | (go_at_call 18; refine (cambiumlaw18_lives.calls true _ rfl).mono ?_; rintro e w1 ⟨rfl, hb⟩; have B1 := ak_ hb; clear hb)
          | (go_at_call 10; (with_reducible refine (stream_Send.calls k1 A0 c0 l0 A1 c1 l1 S 0 _ (Kd.C_below HC0.out B1.out) HP0.out (Kd.C_below HC1.out B1.out) HP1.out H1.out).mono ?_); rintro e w2 ⟨rfl, hb⟩; have B2 := ak_ (below_step B1.out hb); clear hb)
          | (go_at_call 16; (with_reducible refine (stream_Mark.calls k2 A0 c0 l0 (mkB l0) 0 _ (Kd.C_below HC0.out B2.out) HP0.out H2.out).mono ?_); rintro e w3 ⟨rfl, hb⟩; rw [HVm.out]; have B3 := ak_ (below_step B2.out hb); clear hb)
          | ((with_reducible refine gate_dst (N := 9) rfl ?_); refine var_event (N := 9) (T := 28) (n := 32) (zc := arrV (List.replicate 32 0)) (cs := vlm.toArray) rfl rfl rfl (.tmp 32) rfl rfl ?hr info32 (by simp [arrV_size]) HVSm.out HVOm.out ?hx ?hN ?_; (case hx => intro p_; rfl); (case hN => intro p_; rfl); (case hr => first | (go_simp; done) | (go_simp; rfl)); intro gx hg_ w4 hx hb; have x_4 := ak_ hx; have B4 := ak_ (below_step B3.out hb); clear hx hb hg_)
          | (go_at_call 16; (with_reducible refine (stream_Mark.calls k3 A2 c2 l2 (mkB l2) 0 _ (Kd.C_below HC2.out B4.out) HP2.out H3.out).mono ?_); rintro e w5 ⟨rfl, hb⟩; rw [HVo.out]; have B5 := ak_ (below_step B4.out hb); have x_5 := ak_ (blk_below x_4.out hb); clear hb)
          | ((with_reducible refine gate_dst (N := 11) rfl ?_); refine var_event (N := 11) (T := 28) (n := 32) (zc := arrV (List.replicate 32 0)) (cs := vlo.toArray) rfl rfl rfl (.tmp 37) rfl rfl ?hr info32 (by simp [arrV_size]) HVSo.out HVOo.out ?hx ?hN ?_; (case hx => intro p_; rfl); (case hN => intro p_; rfl); (case hr => first | (go_simp; done) | (go_simp; rfl)); intro gy hg_ w6 hx hb; have y_6 := ak_ hx; have B6 := ak_ (below_step B5.out hb); have x_6 := ak_ (blk_below x_5.out hb); clear hx hb hg_)
          | (go_at_call 12; (with_reducible refine (stream_Receive.calls k4 A2 c2 l2 S m4 w4_ _ (Kd.C_below HC2.out B6.out) HP2.out HSS.out H4.out).mono ?_); rintro e w7 ⟨v7, rfl, hR, hb⟩; have B7 := ak_ (below_step B6.out hb); have x_7 := ak_ (blk_below x_6.out hb); have y_7 := ak_ (blk_below y_6.out hb); clear hb hR)
          | ((with_reducible refine gate_dst (N := 52) rfl ?_); refine load_mid_g (by rfl) 28 (.tmp 9) rfl gx 0 rfl vlm _ (fun j u hu => by rw [Nat.zero_add, blk_cell x_7.out, List.getElem?_toArray]; exact hu) Tryz.underlying28 rfl HVLm.out ?_)
          | ((with_reducible refine gate_dst (N := 53) rfl ?_); refine load_mid_g (by rfl) 28 (.tmp 11) rfl gy 0 rfl vlo _ (fun j u hu => by rw [Nat.zero_add, blk_cell y_7.out, List.getElem?_toArray]; exact hu) Tryz.underlying28 rfl HVLo.out ?_)
          | (go_at_call 10; (with_reducible refine (stream_Send.calls k5 A1 c1 l1 A1 c1 l1 U 0 _ (Kd.C_below HC1.out B7.out) HP1.out (Kd.C_below HC1.out B7.out) HP1.out H5.out).mono ?_); rintro e w8 ⟨rfl, hb⟩; have B8 := ak_ (below_step B7.out hb); clear hb)
          | (go_at_call 12; (with_reducible refine (stream_Receive.calls k6 A1 c1 l1 U l1 0 _ (Kd.C_below HC1.out B8.out) HP1.out HUS.out H6.out).mono ?_); rintro e w9 ⟨v9, rfl, hR, hb⟩; obtain ⟨Az, cz, rfl⟩ := Kd.R_slice hR; have Lz_9 := ak_ (Kd.R_reads' hR).2.2; have Pz := ak_ (Kd.R_reads' hR).2.1; have B9 := ak_ (below_step B8.out hb); clear hb hR)
          | (go_at_call 19; refine (cambiumref04_Same.calls k7 Az cz l1 A1 c1 l1 true _ Lz_9.out Pz.out (Kd.C_below HC1.out B9.out) HP1.out H7.out).mono ?_; rintro e w10 ⟨rfl, hd⟩; have B10 := ak_ (below_step B9.out hd.below); have hb := hd.below; clear hd hb))
        go_ret
        exact ⟨rfl, B10.out⟩
end Go.Proofs.YtfkofbabeghgkaaGreat.Z
end

section
namespace Go.Proofs.YtfkofbabeghgkaaGreat.Pure
open Go.Proofs.YtfkofbabeghgkaaGreat Go.Proofs.YtfkofbabeghgkaaGreat.Z
theorem StreamOther : ∀ (l0 : List (S77)) (l1 : List (S77)) (l2 : List (S77)), l0.length ≤ maxLen → (∀ x ∈ l0, Z.G77 x) → l1.length ≤ maxLen → (∀ x ∈ l1, Z.G77 x) → l2.length ≤ maxLen → (∀ x ∈ l2, Z.G77 x) → ((l0.map Z.B77).sum + 1) + ((l1.map Z.B77).sum + 1) + ((l2.map Z.B77).sum + 1) ≤ 1048576 → Z.cambiumlaw18_StreamOther.f l0 l1 l2 = some true := by
  intro l0 l1 l2 h0 g0 h1 g1 h2 g2 hb
  have m0 := Z.sm_len (B := Z.B77) (fun x => Nat.succ_le_succ (Nat.zero_le _)) l0
  have m1 := Z.sm_len (B := Z.B77) (fun x => Nat.succ_le_succ (Nat.zero_le _)) l1
  have m2 := Z.sm_len (B := Z.B77) (fun x => Nat.succ_le_succ (Nat.zero_le _)) l2
  unfold Z.cambiumlaw18_StreamOther.f
  exact if_pos ⟨⟨g0, by omega⟩, ⟨g1, by omega⟩, ⟨g2, by omega⟩⟩
end Go.Proofs.YtfkofbabeghgkaaGreat.Pure
end

section
namespace Go.Proofs.YtfkofbabeghgkaaGreat.streamOther
open Go.ChangeShapes Go.WideShapes Go.ChangeAt Go.RowKit
open Go.ChangeMaps (open_string shut_string)
theorem own : ownKnob Tryz.prog.godebug = none := by kernel_rfl
theorem laidOut : laidOutB Tryz.prog = true := by kernel_rfl
set_option maxHeartbeats 1000000 in
set_option maxRecDepth 100000 in
theorem lifted (os : Os) (started : os.Started) (H : Type) (enc : TypeId × Value → H) (F : Stop.Interp) :
    ReturnsInHanded {} Tryz.checked os 7 .any ((Rows.OpenSpec.upto Rows.streamOtherSpec).pre6 enc Tryz.prog Tryz.f7 Rows.streamOtherUptoRow.domain false) (((Rows.OpenSpec.upto Rows.streamOtherSpec).at F).post enc Tryz.prog Tryz.f7 false true false false) := by
  refine returnsInHanded_of_cond_sized (C := Tryz.checked) (s := Rows.OpenSpec.upto Rows.streamOtherSpec) (k := Rows.uptoSmall) rfl own started (by kernel_rfl) Tryz.func7
    (OpenSpec.witness (enc := enc) (C := Tryz.checked) (s := Rows.OpenSpec.upto Rows.streamOtherSpec) (k := Rows.uptoSmall) rfl false ⟨#[], #[.slice none 0 0, .slice none 0 0, .slice none 0 0], []⟩ 8 (by kernel_rfl) (by kernel_rfl) (by kernel_rfl)
      (x := ([.nil, .nil, .nil], [], [])) (by kernel_rfl) rfl (by kernel_rfl)) ?_
  intro W base args ds gs before hval0 hW hcnd hk0 hwz_ _
  have hsz : (DataW.weightsEach Tryz.prog (Tryz.f7.params.toList ++ Rows.streamOtherSpec.plain.varTypes Tryz.prog) (ds ++ gs)).all (· ≤ reachBytes) = true := hwz_
  have hval : ∀ (j : Nat) t v, Tryz.f7.params[j]? = some t → args[j]? = some v → Value.okWide Tryz.prog W .any base t v := hval0
  have hW' := hW
  obtain ⟨p, q, hA0, hV, rfl, hfz, hnd⟩ := hW
  have hA : DataW.TrodAll enc Tryz.prog W 0 (fun _ => true) true Tryz.f7.params.toList args.toList ds p := hA0
  rw [Tryz.params7] at hA hval hsz
  obtain ⟨v0, vs0, d0, ds0, p0, q0, hargs, rfl, rfl, h0, r0⟩ := trodAll_cons hA
  obtain ⟨v1, vs1, d1, ds1, p1, q1, rfl, rfl, rfl, h1, r1⟩ := trodAll_cons r0
  obtain ⟨v2, vs2, d2, ds2, p2, q2, rfl, rfl, rfl, h2, r2⟩ := trodAll_cons r1
  obtain ⟨rfl, rfl, rfl⟩ := trodAll_nil r2
  obtain rfl : args = #[v0, v1, v2] := by cases args; simp_all
  obtain ⟨rfl, rfl⟩ := trodVars_none hV
  have k0 := h0
  have lt0 : ∀ x ∈ p0, x.block < W.heap.size := by obtain ⟨m, hm⟩ := k0; exact DataW.trod_lt m _ _ _ hm
  obtain ⟨a0, len0, cap0, rfl⟩ := okWide_slice Tryz.underlying22 (hval 0 22 v0 rfl rfl)
  obtain ⟨fuel0, hf0⟩ := h0
  obtain ⟨A0, c0, l0, hcs0, hlc0, hcm0, hC0, hG0, hB0, hx0⟩ := Z.Opens.row Tryz.underlying22 Z.opens77 (of_decide_eq_true (by kernel_rfl)) hf0
  simp only [Value.cells, List.cons.injEq, Value.slice.injEq, and_true] at hcs0
  obtain ⟨rfl, rfl, rfl⟩ := hcs0
  have hlm0 : l0.length ≤ maxLen := Nat.le_trans hlc0 hcm0
  have k1 := h1
  have lt1 : ∀ x ∈ p1, x.block < W.heap.size := by obtain ⟨m, hm⟩ := k1; exact DataW.trod_lt m _ _ _ hm
  obtain ⟨a1, len1, cap1, rfl⟩ := okWide_slice Tryz.underlying22 (hval 1 22 v1 rfl rfl)
  obtain ⟨fuel1, hf1⟩ := h1
  obtain ⟨A1, c1, l1, hcs1, hlc1, hcm1, hC1, hG1, hB1, hx1⟩ := Z.Opens.row Tryz.underlying22 Z.opens77 (of_decide_eq_true (by kernel_rfl)) hf1
  simp only [Value.cells, List.cons.injEq, Value.slice.injEq, and_true] at hcs1
  obtain ⟨rfl, rfl, rfl⟩ := hcs1
  have hlm1 : l1.length ≤ maxLen := Nat.le_trans hlc1 hcm1
  have k2 := h2
  have lt2 : ∀ x ∈ p2, x.block < W.heap.size := by obtain ⟨m, hm⟩ := k2; exact DataW.trod_lt m _ _ _ hm
  obtain ⟨a2, len2, cap2, rfl⟩ := okWide_slice Tryz.underlying22 (hval 2 22 v2 rfl rfl)
  obtain ⟨fuel2, hf2⟩ := h2
  obtain ⟨A2, c2, l2, hcs2, hlc2, hcm2, hC2, hG2, hB2, hx2⟩ := Z.Opens.row Tryz.underlying22 Z.opens77 (of_decide_eq_true (by kernel_rfl)) hf2
  simp only [Value.cells, List.cons.injEq, Value.slice.injEq, and_true] at hcs2
  obtain ⟨rfl, rfl, rfl⟩ := hcs2
  have hlm2 : l2.length ≤ maxLen := Nat.le_trans hlc2 hcm2
  have hbk : ((l0.map Z.B77).sum + 1) + ((l1.map Z.B77).sum + 1) + ((l2.map Z.B77).sum + 1) ≤ 1048576 := by
    have hb_ := of_decide_eq_true hk0
    simp only [Rows.uptoBulkAll, Rows.uptoBulk, List.append_nil, Array.length_toList, List.map_cons, List.map_nil] at hb_
    (try simp only [show ∀ s : ByteArray, s.data.size = s.size from fun _ => rfl] at hb_)
    (try dsimp only at hB0)
    (try dsimp only at hB1)
    (try dsimp only at hB2)
    omega
  have hP := Pure.StreamOther l0 l1 l2 hlm0 hG0 hlm1 hG1 hlm2 hG2 hbk
  refine (Z.cambiumlaw18_StreamOther.calls _ _ l0 _ _ l1 _ _ l2 true W hC0 hlc0 hC1 hlc1 hC2 hlc2 hP).mono fun e W' ⟨he, bel0⟩ => ?_
  have bel : Below W.heap.size W W' := bel0
  subst he
  exact ⟨_, rfl, _, _, _, [], _, [], hW', trodAll_mk1 (shut_bool Tryz.underlying4 _), (trodAll_cons_mk (Below.trod laidOut (by kernel_rfl) (of_decide_eq_true (by kernel_rfl)) k0 bel lt0) (trodAll_cons_mk (Below.trod laidOut (by kernel_rfl) (of_decide_eq_true (by kernel_rfl)) k1 bel lt1) (trodAll_cons_mk (Below.trod laidOut (by kernel_rfl) (of_decide_eq_true (by kernel_rfl)) k2 bel lt2) trodAll_mk0))), rfl, bel.frame _, fun h => by cases h⟩
theorem over : Rows.streamOtherUptoRow.holds Tryz.pinned (Rows.OpenSpec.upto Rows.streamOtherSpec) :=
  OpenClaim.holds_of_cond 7 Tryz.f7 rfl rfl rfl rfl rfl rfl rfl ⟨rfl, rfl, rfl, rfl, rfl⟩ rfl rfl rfl rfl rfl (by kernel_rfl) Tryz.func7 (by kernel_rfl)
    (of_decide_eq_true (by kernel_rfl)) (by unfold Func.isWrapper; first | (rw [if_pos (by decide +kernel)]; kernel_rfl) | (rw [if_neg (by decide +kernel)]; exact ⟨rfl, rfl⟩))
    (fun os started H enc _ F => lifted os started H enc F)
end Go.Proofs.YtfkofbabeghgkaaGreat.streamOther
namespace Go.Proofs.YtfkofbabeghgkaaGreat
theorem streamOther_holds : Rows.StreamOtherUptoSaid := streamOther.over
#print axioms streamOther_holds
end Go.Proofs.YtfkofbabeghgkaaGreat
end
