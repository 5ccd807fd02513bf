/- StreamChainsUpto: at every input the law's function returns true and leaves its arguments as they were; condition: the arguments are of bulk at most 1048576. Part 6 of 6: this session's own texts, laid together. -/
import Derived.Test.YtfkofbabeghgkaaGreatMB5
import Derived.Test.YtfkofbabeghgkaaGreatRows
import Derived.WalkKit
import Derived.ProofKit
import Derived.OpenShut
import Derived.ShutString
import Derived.ChangeOld
import Derived.Below
import Derived.SizedLaws
import Derived.Carry
import Derived.JoinedCond
import Derived.Deep.CondSized
open Go.RowKit Go.Proofs.YtfkofbabeghgkaaGreatW.PrintWords Go.Proofs.YtfkofbabeghgkaaGreatW.PrintLast Go.Proofs.YtfkofbabeghgkaaGreatW.PrintMore
set_option linter.unusedVariables false
set_option linter.unusedSimpArgs false
section
namespace Go.Proofs.YtfkofbabeghgkaaGreat.Z
open Go.Proofs.YtfkofbabeghgkaaGreat.PM
open Classical in
noncomputable def cambiumlaw18_StreamChains.f (l0 : List S77) (l1 : List S77) (l2 : List S77) : Option Bool := if Sm l0 ∧ Sm l1 ∧ Sm l2 then some true else none
set_option maxRecDepth 100000 in
set_option maxHeartbeats 6400000 in
theorem cambiumlaw18_StreamChains.calls (A0 : Option Addr) (c0 : Nat) (l0 : List S77) (A1 : Option Addr) (c1 : Nat) (l1 : List S77) (A2 : Option Addr) (c2 : Nat) (l2 : List S77) (r : Bool) (w : World) (hr0 : Kd.C k77 w A0 l0.length l0) (hc0 : l0.length ≤ c0) (hr1 : Kd.C k77 w A1 l1.length l1) (hc1 : l1.length ≤ c1) (hr2 : Kd.C k77 w A2 l2.length l2) (hc2 : l2.length ≤ c2) (h : cambiumlaw18_StreamChains.f l0 l1 l2 = some r) : Calls Tryz.prog 8 #[.slice A0 l0.length c0, .slice A1 l1.length c1, .slice A2 l2.length c2] w fun e w' => e = .returned (.bool r) ∧ Below w.heap.size w w' := by
  unfold cambiumlaw18_StreamChains.f at h
  by_cases hsm : Sm l0 ∧ Sm l1 ∧ Sm l2
  rotate_left
  · rw [if_neg hsm] at h; cases h
  rw [if_pos hsm] at h
  obtain rfl := Option.some.inj h
  clear h
  have HC0 := ak_ hr0
  have HP0 := ak_ hc0
  have HC1 := ak_ hr1
  have HP1 := ak_ hc1
  have HC2 := ak_ hr2
  have HP2 := ak_ hc2
  clear hr0 hc0 hr1 hc1 hr2 hc2
  cases hs : sendB mkY rtB l0 l1 with
  | none =>
    obtain ⟨k1, h1⟩ := send_no hsm.1 hsm.2.1 hs
    obtain ⟨k2, ⟨z1, z2⟩, h2⟩ := send_any hsm.2.1 hsm.2.2
    have H1 := ak_ h1
    have H2 := ak_ h2
    clear hs h1 h2
    go_enter Tryz.func8, Tryz.ntmps8
    go_wp2_with (first
      | (go_at_call 18; refine (cambiumlaw18_lives.calls true _ rfl).mono ?_; rintro e w1 ⟨rfl, hb⟩; have B1 := ak_ hb; clear hb)
      | (go_at_call 10; (with_reducible refine (stream_Send.calls k1 A0 c0 l0 A1 c1 l1 ⟨#[]⟩ 9 _ (Kd.C_below HC0.out B1.out) HP0.out (Kd.C_below HC1.out B1.out) HP1.out H1.out).mono ?_); rintro e w2 ⟨rfl, hb⟩; have B2 := ak_ (below_step B1.out hb); clear hb)
      | (go_at_call 10; (with_reducible refine (stream_Send.calls k2 A1 c1 l1 A2 c2 l2 z1 z2 _ (Kd.C_below HC1.out B2.out) HP1.out (Kd.C_below HC2.out B2.out) HP2.out H2.out).mono ?_); rintro e w3 ⟨rfl, hb⟩; have B3 := ak_ (below_step B2.out hb); clear hb))
    go_ret
    exact ⟨rfl, B3.out⟩
  | some s =>
    obtain ⟨hoa, hob, hrb, hma, _, hrd⟩ := send_parts hsm.1 hsm.2.1 hs
    have hln := send_len hsm.1 hsm.2.1 hs
    obtain ⟨k1, h1⟩ := send_yes hsm.1 hsm.2.1 hs
    obtain ⟨k3, h3⟩ := recv_yes hsm.1 (by omega) (recv_sent (mk := mkY) (rt := rtB) mkY_len rtB_ok (by have := hsm.1.2; have := hsm.2.1.2; omega) hs)
    obtain ⟨S, hS⟩ : ∃ S, S = ba s := ⟨_, rfl⟩
    rw [← hS] at h1 h3
    have HSS := ak_ (show S.size ≤ 4611686018427387904 by rw [hS, ba_size]; omega)
    have H1 := ak_ h1
    have H3 := ak_ h3
    clear hS hoa hob hrd hln h1 h3
    cases ht : sendB mkY rtB l1 l2 with
    | none =>
      obtain ⟨k2, h2⟩ := send_no hsm.2.1 hsm.2.2 ht
      have H2 := ak_ h2
      clear hs ht h2
      go_enter Tryz.func8, Tryz.ntmps8
      go_wp2_with (first
        | (go_at_call 18; refine (cambiumlaw18_lives.calls true _ rfl).mono ?_; rintro e w1 ⟨rfl, hb⟩; have B1 := ak_ hb; clear hb)
        | (go_at_call 10; (with_reducible refine (stream_Send.calls k1 A0 c0 l0 A1 c1 l1 S 0 _ (Kd.C_below HC0.out B1.out) HP0.out (Kd.C_below HC1.out B1.out) HP1.out H1.out).mono ?_); rintro e w2 ⟨rfl, hb⟩; have B2 := ak_ (below_step B1.out hb); clear hb)
        | (go_at_call 10; (with_reducible refine (stream_Send.calls k2 A1 c1 l1 A2 c2 l2 ⟨#[]⟩ 9 _ (Kd.C_below HC1.out B2.out) HP1.out (Kd.C_below HC2.out B2.out) HP2.out H2.out).mono ?_); rintro e w3 ⟨rfl, hb⟩; have B3 := ak_ (below_step B2.out hb); clear hb))
      go_ret
      exact ⟨rfl, B3.out⟩
    | some t =>
      obtain ⟨_, hoc, hrc, _, _, hrt⟩ := send_parts hsm.2.1 hsm.2.2 ht
      have hlt := send_len hsm.2.1 hsm.2.2 ht
      obtain ⟨k2, h2⟩ := send_yes hsm.2.1 hsm.2.2 ht
      obtain ⟨k4, h4⟩ := recv_yes hsm.2.1 (by omega) (recv_sent (mk := mkY) (rt := rtB) mkY_len rtB_ok (by have := hsm.2.1.2; have := hsm.2.2.2; omega) ht)
      have hu : sendB mkY rtB l0 l2 = some (strB (mkY l0) (diffL l0 l2)) := if_pos ⟨hma, hrc⟩
      have hlu := send_len hsm.1 hsm.2.2 hu
      obtain ⟨k5, h5⟩ := send_yes hsm.1 hsm.2.2 hu
      obtain ⟨k6, h6⟩ := recv_yes hsm.1 (by omega) (recv_sent (mk := mkY) (rt := rtB) mkY_len rtB_ok (by have := hsm.1.2; have := hsm.2.2.2; omega) hu)
      obtain ⟨k7, h7⟩ := same_yes (l := l2) (by have := hsm.2.2.2; omega)
      obtain ⟨T, hT⟩ : ∃ T, T = ba t := ⟨_, rfl⟩
      obtain ⟨U, hU⟩ : ∃ U, U = ba (strB (mkY l0) (diffL l0 l2)) := ⟨_, rfl⟩
      rw [← hT] at h2 h4
      rw [← hU] at h5 h6
      have HTS := ak_ (show T.size ≤ 4611686018427387904 by rw [hT, ba_size]; omega)
      have HUS := ak_ (show U.size ≤ 4611686018427387904 by rw [hU, ba_size]; omega)
      have H2 := ak_ h2
      have H4 := ak_ h4
      have H5 := ak_ h5
      have H6 := ak_ h6
      have H7 := ak_ h7
      clear hs ht hT hU hoc hrc hrt hlt hu hlu h2 h4 h5 h6 h7 hma hrb hsm
      go_enter Tryz.func8, Tryz.ntmps8
      go_wp2_with (first
        | (go_at_call 18; refine (cambiumlaw18_lives.calls true _ rfl).mono ?_; rintro e w1 ⟨rfl, hb⟩; have B1 := ak_ hb; clear hb)
        | (go_at_call 10; (with_reducible refine (stream_Send.calls k1 A0 c0 l0 A1 c1 l1 S 0 _ (Kd.C_below HC0.out B1.out) HP0.out (Kd.C_below HC1.out B1.out) HP1.out H1.out).mono ?_); rintro e w2 ⟨rfl, hb⟩; have B2 := ak_ (below_step B1.out hb); clear hb)
        | (go_at_call 10; (with_reducible refine (stream_Send.calls k2 A1 c1 l1 A2 c2 l2 T 0 _ (Kd.C_below HC1.out B2.out) HP1.out (Kd.C_below HC2.out B2.out) HP2.out H2.out).mono ?_); rintro e w3 ⟨rfl, hb⟩; have B3 := ak_ (below_step B2.out hb); clear hb)
        | (go_at_call 12; (with_reducible refine (stream_Receive.calls k3 A0 c0 l0 S l1 0 _ (Kd.C_below HC0.out B3.out) HP0.out HSS.out H3.out).mono ?_); rintro e w4 ⟨v4, rfl, hR, hb⟩; obtain ⟨Ax, cx, rfl⟩ := Kd.R_slice hR; have Lx_4 := ak_ (Kd.R_reads' hR).2.2; have Px := ak_ (Kd.R_reads' hR).2.1; have B4 := ak_ (below_step B3.out hb); clear hb hR)
        | (go_at_call 12; (with_reducible refine (stream_Receive.calls k4 Ax cx l1 T l2 0 _ Lx_4.out Px.out HTS.out H4.out).mono ?_); rintro e w5 ⟨v5, rfl, hR, hb⟩; obtain ⟨Ay, cy, rfl⟩ := Kd.R_slice hR; have Ly_5 := ak_ (Kd.R_reads' hR).2.2; have Py := ak_ (Kd.R_reads' hR).2.1; have B5 := ak_ (below_step B4.out hb); clear hb hR)
        | (go_at_call 10; (with_reducible refine (stream_Send.calls k5 A0 c0 l0 A2 c2 l2 U 0 _ (Kd.C_below HC0.out B5.out) HP0.out (Kd.C_below HC2.out B5.out) HP2.out H5.out).mono ?_); rintro e w6 ⟨rfl, hb⟩; have B6 := ak_ (below_step B5.out hb); have Ly_6 := ak_ (Kd.C_below Ly_5.out hb); clear hb)
        | (go_at_call 12; (with_reducible refine (stream_Receive.calls k6 A0 c0 l0 U l2 0 _ (Kd.C_below HC0.out B6.out) HP0.out HUS.out H6.out).mono ?_); rintro e w7 ⟨v7, rfl, hR, hb⟩; obtain ⟨Az, cz, rfl⟩ := Kd.R_slice hR; have Lz_7 := ak_ (Kd.R_reads' hR).2.2; have Pz := ak_ (Kd.R_reads' hR).2.1; have B7 := ak_ (below_step B6.out hb); have Ly_7 := ak_ (Kd.C_below Ly_6.out hb); clear hb hR)
        | (go_at_call 19; refine (cambiumref04_Same.calls k7 Az cz l2 A2 c2 l2 true _ Lz_8.out Pz.out (Kd.C_below HC2.out B8.out) HP2.out H7.out).mono ?_; rintro e w9 ⟨rfl, hd⟩; have B9 := ak_ (below_step B8.out hd.below); have hb := hd.below; clear hd hb)
        | (go_at_call 19; refine (cambiumref04_Same.calls k7 Ay cy l2 A2 c2 l2 true _ Ly_7.out Py.out (Kd.C_below HC2.out B7.out) HP2.out H7.out).mono ?_; rintro e w8 ⟨rfl, hd⟩; have B8 := ak_ (below_step B7.out hd.below); have hb := hd.below; have Lz_8 := ak_ (Kd.C_below Lz_7.out hb); clear hd hb))
      go_ret
      exact ⟨rfl, B9.out⟩
end Go.Proofs.YtfkofbabeghgkaaGreat.Z
end

section
namespace Go.Proofs.YtfkofbabeghgkaaGreat.Pure
open Go.Proofs.YtfkofbabeghgkaaGreat Go.Proofs.YtfkofbabeghgkaaGreat.Z
theorem StreamChains : ∀ (l0 : List (S77)) (l1 : List (S77)) (l2 : List (S77)), l0.length ≤ maxLen → (∀ x ∈ l0, Z.G77 x) → l1.length ≤ maxLen → (∀ x ∈ l1, Z.G77 x) → l2.length ≤ maxLen → (∀ x ∈ l2, Z.G77 x) → ((l0.map Z.B77).sum + 1) + ((l1.map Z.B77).sum + 1) + ((l2.map Z.B77).sum + 1) ≤ 1048576 → Z.cambiumlaw18_StreamChains.f l0 l1 l2 = some true := by
  intro l0 l1 l2 h0 g0 h1 g1 h2 g2 hb
  have m0 := Z.sm_len (B := Z.B77) (fun x => Nat.succ_le_succ (Nat.zero_le _)) l0
  have m1 := Z.sm_len (B := Z.B77) (fun x => Nat.succ_le_succ (Nat.zero_le _)) l1
  have m2 := Z.sm_len (B := Z.B77) (fun x => Nat.succ_le_succ (Nat.zero_le _)) l2
  unfold Z.cambiumlaw18_StreamChains.f
  exact if_pos ⟨⟨g0, by omega⟩, ⟨g1, by omega⟩, ⟨g2, by omega⟩⟩
end Go.Proofs.YtfkofbabeghgkaaGreat.Pure
end

section
namespace Go.Proofs.YtfkofbabeghgkaaGreat.streamChains
open Go.ChangeShapes Go.WideShapes Go.ChangeAt Go.RowKit
open Go.ChangeMaps (open_string shut_string)
theorem own : ownKnob Tryz.prog.godebug = none := by kernel_rfl
theorem laidOut : laidOutB Tryz.prog = true := by kernel_rfl
set_option maxHeartbeats 1000000 in
set_option maxRecDepth 100000 in
theorem lifted (os : Os) (started : os.Started) (H : Type) (enc : TypeId × Value → H) (F : Stop.Interp) :
    ReturnsInHanded {} Tryz.checked os 8 .any ((Rows.OpenSpec.upto Rows.streamChainsSpec).pre6 enc Tryz.prog Tryz.f8 Rows.streamChainsUptoRow.domain false) (((Rows.OpenSpec.upto Rows.streamChainsSpec).at F).post enc Tryz.prog Tryz.f8 false true false false) := by
  refine returnsInHanded_of_cond_sized (C := Tryz.checked) (s := Rows.OpenSpec.upto Rows.streamChainsSpec) (k := Rows.uptoSmall) rfl own started (by kernel_rfl) Tryz.func8
    (OpenSpec.witness (enc := enc) (C := Tryz.checked) (s := Rows.OpenSpec.upto Rows.streamChainsSpec) (k := Rows.uptoSmall) rfl false ⟨#[], #[.slice none 0 0, .slice none 0 0, .slice none 0 0], []⟩ 8 (by kernel_rfl) (by kernel_rfl) (by kernel_rfl)
      (x := ([.nil, .nil, .nil], [], [])) (by kernel_rfl) rfl (by kernel_rfl)) ?_
  intro W base args ds gs before hval0 hW hcnd hk0 hwz_ _
  have hsz : (DataW.weightsEach Tryz.prog (Tryz.f8.params.toList ++ Rows.streamChainsSpec.plain.varTypes Tryz.prog) (ds ++ gs)).all (· ≤ reachBytes) = true := hwz_
  have hval : ∀ (j : Nat) t v, Tryz.f8.params[j]? = some t → args[j]? = some v → Value.okWide Tryz.prog W .any base t v := hval0
  have hW' := hW
  obtain ⟨p, q, hA0, hV, rfl, hfz, hnd⟩ := hW
  have hA : DataW.TrodAll enc Tryz.prog W 0 (fun _ => true) true Tryz.f8.params.toList args.toList ds p := hA0
  rw [Tryz.params8] at hA hval hsz
  obtain ⟨v0, vs0, d0, ds0, p0, q0, hargs, rfl, rfl, h0, r0⟩ := trodAll_cons hA
  obtain ⟨v1, vs1, d1, ds1, p1, q1, rfl, rfl, rfl, h1, r1⟩ := trodAll_cons r0
  obtain ⟨v2, vs2, d2, ds2, p2, q2, rfl, rfl, rfl, h2, r2⟩ := trodAll_cons r1
  obtain ⟨rfl, rfl, rfl⟩ := trodAll_nil r2
  obtain rfl : args = #[v0, v1, v2] := by cases args; simp_all
  obtain ⟨rfl, rfl⟩ := trodVars_none hV
  have k0 := h0
  have lt0 : ∀ x ∈ p0, x.block < W.heap.size := by obtain ⟨m, hm⟩ := k0; exact DataW.trod_lt m _ _ _ hm
  obtain ⟨a0, len0, cap0, rfl⟩ := okWide_slice Tryz.underlying22 (hval 0 22 v0 rfl rfl)
  obtain ⟨fuel0, hf0⟩ := h0
  obtain ⟨A0, c0, l0, hcs0, hlc0, hcm0, hC0, hG0, hB0, hx0⟩ := Z.Opens.row Tryz.underlying22 Z.opens77 (of_decide_eq_true (by kernel_rfl)) hf0
  simp only [Value.cells, List.cons.injEq, Value.slice.injEq, and_true] at hcs0
  obtain ⟨rfl, rfl, rfl⟩ := hcs0
  have hlm0 : l0.length ≤ maxLen := Nat.le_trans hlc0 hcm0
  have k1 := h1
  have lt1 : ∀ x ∈ p1, x.block < W.heap.size := by obtain ⟨m, hm⟩ := k1; exact DataW.trod_lt m _ _ _ hm
  obtain ⟨a1, len1, cap1, rfl⟩ := okWide_slice Tryz.underlying22 (hval 1 22 v1 rfl rfl)
  obtain ⟨fuel1, hf1⟩ := h1
  obtain ⟨A1, c1, l1, hcs1, hlc1, hcm1, hC1, hG1, hB1, hx1⟩ := Z.Opens.row Tryz.underlying22 Z.opens77 (of_decide_eq_true (by kernel_rfl)) hf1
  simp only [Value.cells, List.cons.injEq, Value.slice.injEq, and_true] at hcs1
  obtain ⟨rfl, rfl, rfl⟩ := hcs1
  have hlm1 : l1.length ≤ maxLen := Nat.le_trans hlc1 hcm1
  have k2 := h2
  have lt2 : ∀ x ∈ p2, x.block < W.heap.size := by obtain ⟨m, hm⟩ := k2; exact DataW.trod_lt m _ _ _ hm
  obtain ⟨a2, len2, cap2, rfl⟩ := okWide_slice Tryz.underlying22 (hval 2 22 v2 rfl rfl)
  obtain ⟨fuel2, hf2⟩ := h2
  obtain ⟨A2, c2, l2, hcs2, hlc2, hcm2, hC2, hG2, hB2, hx2⟩ := Z.Opens.row Tryz.underlying22 Z.opens77 (of_decide_eq_true (by kernel_rfl)) hf2
  simp only [Value.cells, List.cons.injEq, Value.slice.injEq, and_true] at hcs2
  obtain ⟨rfl, rfl, rfl⟩ := hcs2
  have hlm2 : l2.length ≤ maxLen := Nat.le_trans hlc2 hcm2
  have hbk : ((l0.map Z.B77).sum + 1) + ((l1.map Z.B77).sum + 1) + ((l2.map Z.B77).sum + 1) ≤ 1048576 := by
    have hb_ := of_decide_eq_true hk0
    simp only [Rows.uptoBulkAll, Rows.uptoBulk, List.append_nil, Array.length_toList, List.map_cons, List.map_nil] at hb_
    (try simp only [show ∀ s : ByteArray, s.data.size = s.size from fun _ => rfl] at hb_)
    (try dsimp only at hB0)
    (try dsimp only at hB1)
    (try dsimp only at hB2)
    omega
  have hP := Pure.StreamChains l0 l1 l2 hlm0 hG0 hlm1 hG1 hlm2 hG2 hbk
  refine (Z.cambiumlaw18_StreamChains.calls _ _ l0 _ _ l1 _ _ l2 true W hC0 hlc0 hC1 hlc1 hC2 hlc2 hP).mono fun e W' ⟨he, bel0⟩ => ?_
  have bel : Below W.heap.size W W' := bel0
  subst he
  exact ⟨_, rfl, _, _, _, [], _, [], hW', trodAll_mk1 (shut_bool Tryz.underlying4 _), (trodAll_cons_mk (Below.trod laidOut (by kernel_rfl) (of_decide_eq_true (by kernel_rfl)) k0 bel lt0) (trodAll_cons_mk (Below.trod laidOut (by kernel_rfl) (of_decide_eq_true (by kernel_rfl)) k1 bel lt1) (trodAll_cons_mk (Below.trod laidOut (by kernel_rfl) (of_decide_eq_true (by kernel_rfl)) k2 bel lt2) trodAll_mk0))), rfl, bel.frame _, fun h => by cases h⟩
theorem over : Rows.streamChainsUptoRow.holds Tryz.pinned (Rows.OpenSpec.upto Rows.streamChainsSpec) :=
  OpenClaim.holds_of_cond 8 Tryz.f8 rfl rfl rfl rfl rfl rfl rfl ⟨rfl, rfl, rfl, rfl, rfl⟩ rfl rfl rfl rfl rfl (by kernel_rfl) Tryz.func8 (by kernel_rfl)
    (of_decide_eq_true (by kernel_rfl)) (by unfold Func.isWrapper; first | (rw [if_pos (by decide +kernel)]; kernel_rfl) | (rw [if_neg (by decide +kernel)]; exact ⟨rfl, rfl⟩))
    (fun os started H enc _ F => lifted os started H enc F)
end Go.Proofs.YtfkofbabeghgkaaGreat.streamChains
namespace Go.Proofs.YtfkofbabeghgkaaGreat
theorem streamChains_holds : Rows.StreamChainsUptoSaid := streamChains.over
#print axioms streamChains_holds
end Go.Proofs.YtfkofbabeghgkaaGreat
end
