/- StreamBackUpto: at every input the law's function returns true and leaves its arguments as they were; condition: the arguments are of bulk at most 1048576. Part 6 of 6: this session's own texts, laid together. -/
import Derived.Test.YtfkofbabeghgkaaGreatMB5
import Derived.Test.YtfkofbabeghgkaaGreatRows
import Derived.WalkKit
import Derived.ProofKit
import Derived.OpenShut
import Derived.ShutString
import Derived.ChangeOld
import Derived.Below
import Derived.SizedLaws
import Derived.Carry
import Derived.JoinedCond
import Derived.Deep.CondSized
open Go.RowKit Go.Proofs.YtfkofbabeghgkaaGreatW.PrintWords Go.Proofs.YtfkofbabeghgkaaGreatW.PrintLast Go.Proofs.YtfkofbabeghgkaaGreatW.PrintMore
set_option linter.unusedVariables false
set_option linter.unusedSimpArgs false
section
namespace Go.Proofs.YtfkofbabeghgkaaGreat.Z
open Go.Proofs.YtfkofbabeghgkaaGreat.PM
open Classical in
noncomputable def cambiumlaw18_StreamBack.f (l0 : List S77) (l1 : List S77) : Option Bool := if Sm l0 ∧ Sm l1 then some true else none
set_option maxRecDepth 100000 in
set_option maxHeartbeats 6400000 in
theorem cambiumlaw18_StreamBack.calls (A0 : Option Addr) (c0 : Nat) (l0 : List S77) (A1 : Option Addr) (c1 : Nat) (l1 : List S77) (r : Bool) (w : World) (hr0 : Kd.C k77 w A0 l0.length l0) (hc0 : l0.length ≤ c0) (hr1 : Kd.C k77 w A1 l1.length l1) (hc1 : l1.length ≤ c1) (h : cambiumlaw18_StreamBack.f l0 l1 = some r) : Calls Tryz.prog 4 #[.slice A0 l0.length c0, .slice A1 l1.length c1] w fun e w' => e = .returned (.bool r) ∧ Below w.heap.size w w' := by
  unfold cambiumlaw18_StreamBack.f at h
  by_cases hsm : Sm l0 ∧ Sm l1
  rotate_left
  · rw [if_neg hsm] at h; cases h
  rw [if_pos hsm] at h
  obtain rfl := Option.some.inj h
  clear h
  have HC0 := ak_ hr0
  have HP0 := ak_ hc0
  have HC1 := ak_ hr1
  have HP1 := ak_ hc1
  clear hr0 hc0 hr1 hc1
  cases hs : sendB mkY rtB l0 l1 with
  | none =>
    obtain ⟨k1, h1⟩ := send_no hsm.1 hsm.2 hs
    have H1 := ak_ h1
    clear hs h1
    go_enter Tryz.func4, Tryz.ntmps4
    go_wp2_with (first
      | (go_at_call 18; refine (cambiumlaw18_lives.calls true _ rfl).mono ?_; rintro e w1 ⟨rfl, hb⟩; have B1 := ak_ hb; clear hb)
      | (go_at_call 10; (with_reducible refine (stream_Send.calls k1 A0 c0 l0 A1 c1 l1 ⟨#[]⟩ 9 _ (Kd.C_below HC0.out B1.out) HP0.out (Kd.C_below HC1.out B1.out) HP1.out H1.out).mono ?_); rintro e w2 ⟨rfl, hb⟩; have B2 := ak_ (below_step B1.out hb); clear hb))
    go_ret
    exact ⟨rfl, B2.out⟩
  | some s =>
    obtain ⟨hoa, hob, hrb, hma, _, hrd⟩ := send_parts hsm.1 hsm.2 hs
    have hln := send_len hsm.1 hsm.2 hs
    obtain ⟨k1, h1⟩ := send_yes hsm.1 hsm.2 hs
    obtain ⟨k2, h2⟩ := recv_yes hsm.1 (by omega) (recv_sent (mk := mkY) (rt := rtB) mkY_len rtB_ok (by have := hsm.1.2; have := hsm.2.2; omega) hs)
    obtain ⟨k3, h3⟩ := base_yes (s := s) (by omega) hrd
    rw [mkY_ints] at h3
    obtain ⟨k4, h4⟩ := mark_yes hsm.1 hoa
    obtain ⟨k5, h5⟩ := same_yes (l := l1) (by have := hsm.2.2; omega)
    obtain ⟨S, hS⟩ : ∃ S, S = ba s := ⟨_, rfl⟩
    rw [← hS] at h1 h2 h3
    have HSS := ak_ (show S.size ≤ 4611686018427387904 by rw [hS, ba_size]; omega)
    have H1 := ak_ h1
    have H2 := ak_ h2
    have H3 := ak_ h3
    have H4 := ak_ h4
    have H5 := ak_ h5
    obtain ⟨vlm, hvlm⟩ : ∃ v : List Value, v = (mkB l0).map (fun x => Value.int .u8 x) := ⟨_, rfl⟩
    have HVm := ak_ (show arrV (mkB l0) = vlm.toArray by rw [hvlm]; rfl)
    have HVSm := ak_ (show vlm.toArray.size = 32 by rw [← HVm.out, arrV_size]; exact mkB_len l0)
    have HVOm := ak_ (show vlm.toArray.toList.all Value.oneCell' = true by rw [← HVm.out]; simpa using arrV_one (mkB l0))
    have HVLm := ak_ (show (Tryz.prog.info? 28).map (·.size) = some vlm.length by rw [hvlm, List.length_map]; rw [show (mkB l0).length = 32 from mkB_len l0]; exact info32)
    clear hvlm
    have eq9 : ∀ W : World, (binOp .eql 28 (.agg vlm.toArray) (.agg vlm.toArray)).run Tryz.prog W = .ok (.bool true) W := fun W => by
      rw [← HVm.out, eql_arr _ _ (mkB_len l0) (mkB_len l0) W, beq_self_eq_true]
    clear hs hS hoa hob hrb hma hrd hln h1 h2 h3 h4 h5 hsm
    go_enter Tryz.func4, Tryz.ntmps4
    go_wp2_with (first
      | (go_at_call 18; refine (cambiumlaw18_lives.calls true _ rfl).mono ?_; rintro e w1 ⟨rfl, hb⟩; have B1 := ak_ hb; clear hb)
      | (go_at_call 10; (with_reducible refine (stream_Send.calls k1 A0 c0 l0 A1 c1 l1 S 0 _ (Kd.C_below HC0.out B1.out) HP0.out (Kd.C_below HC1.out B1.out) HP1.out H1.out).mono ?_); rintro e w2 ⟨rfl, hb⟩; have B2 := ak_ (below_step B1.out hb); clear hb)
      | (go_at_call 12; (with_reducible refine (stream_Receive.calls k2 A0 c0 l0 S l1 0 _ (Kd.C_below HC0.out B2.out) HP0.out HSS.out H2.out).mono ?_); rintro e w3 ⟨v3, rfl, hR, hb⟩; obtain ⟨Ar, cr, rfl⟩ := Kd.R_slice hR; have Lr_3 := ak_ (Kd.R_reads' hR).2.2; have Pr := ak_ (Kd.R_reads' hR).2.1; have B3 := ak_ (below_step B2.out hb); clear hb hR)
      | (go_at_call 14; (with_reducible refine (stream_Base.calls k3 S (mkB l0) 0 _ HSS.out H3.out).mono ?_); rintro e w4 ⟨rfl, hz, hb⟩; rw [HVm.out]; have B4 := ak_ (below_step B3.out hb); have Lr_4 := ak_ (Kd.C_below Lr_3.out hb); clear hb hz)
      | ((with_reducible refine gate_dst (N := 9) rfl ?_); refine var_event (N := 9) (T := 28) (n := 32) (zc := arrV (List.replicate 32 0)) (cs := vlm.toArray) rfl rfl rfl (.tmp 34) rfl rfl ?hr info32 (by simp [arrV_size]) HVSm.out HVOm.out ?hx ?hN ?_; (case hx => intro p_; rfl); (case hN => intro p_; rfl); (case hr => first | (go_simp; done) | (go_simp; rfl)); intro gx hg_ w5 hx hb; have x_5 := ak_ hx; have B5 := ak_ (below_step B4.out hb); have Lr_5 := ak_ (Kd.C_below Lr_4.out hb); clear hx hb hg_)
      | (go_at_call 16; (with_reducible refine (stream_Mark.calls k4 A0 c0 l0 (mkB l0) 0 _ (Kd.C_below HC0.out B5.out) HP0.out H4.out).mono ?_); rintro e w6 ⟨rfl, hb⟩; rw [HVm.out]; have B6 := ak_ (below_step B5.out hb); have Lr_6 := ak_ (Kd.C_below Lr_5.out hb); have x_6 := ak_ (blk_below x_5.out hb); clear hb)
      | ((with_reducible refine gate_dst (N := 11) rfl ?_); refine var_event (N := 11) (T := 28) (n := 32) (zc := arrV (List.replicate 32 0)) (cs := vlm.toArray) rfl rfl rfl (.tmp 39) rfl rfl ?hr info32 (by simp [arrV_size]) HVSm.out HVOm.out ?hx ?hN ?_; (case hx => intro p_; rfl); (case hN => intro p_; rfl); (case hr => first | (go_simp; done) | (go_simp; rfl)); intro gy hg_ w7 hx hb; have y_7 := ak_ hx; have B7 := ak_ (below_step B6.out hb); have Lr_7 := ak_ (Kd.C_below Lr_6.out hb); have x_7 := ak_ (blk_below x_6.out hb); clear hx hb hg_)
      | (go_at_call 19; refine (cambiumref04_Same.calls k5 Ar cr l1 A1 c1 l1 true _ Lr_7.out Pr.out (Kd.C_below HC1.out B7.out) HP1.out H5.out).mono ?_; rintro e w8 ⟨rfl, hd⟩; have B8 := ak_ (below_step B7.out hd.below); have hb := hd.below; have x_8 := ak_ (blk_below x_7.out hb); have y_8 := ak_ (blk_below y_7.out hb); clear hd hb)
      | ((with_reducible refine gate_dst (N := 57) rfl ?_); refine load_mid_g (by rfl) 28 (.tmp 9) rfl gx 0 rfl vlm _ (fun j u hu => by rw [Nat.zero_add, blk_cell x_8.out, List.getElem?_toArray]; exact hu) Tryz.underlying28 rfl HVLm.out ?_)
      | ((with_reducible refine gate_dst (N := 58) rfl ?_); refine load_mid_g (by rfl) 28 (.tmp 11) rfl gy 0 rfl vlm _ (fun j u hu => by rw [Nat.zero_add, blk_cell y_8.out, List.getElem?_toArray]; exact hu) Tryz.underlying28 rfl HVLm.out ?_))
    go_ret
    exact ⟨rfl, B8.out⟩
end Go.Proofs.YtfkofbabeghgkaaGreat.Z
end

section
namespace Go.Proofs.YtfkofbabeghgkaaGreat.Pure
open Go.Proofs.YtfkofbabeghgkaaGreat Go.Proofs.YtfkofbabeghgkaaGreat.Z
theorem StreamBack : ∀ (l0 : List (S77)) (l1 : List (S77)), l0.length ≤ maxLen → (∀ x ∈ l0, Z.G77 x) → l1.length ≤ maxLen → (∀ x ∈ l1, Z.G77 x) → ((l0.map Z.B77).sum + 1) + ((l1.map Z.B77).sum + 1) ≤ 1048576 → Z.cambiumlaw18_StreamBack.f l0 l1 = some true := by
  intro l0 l1 h0 g0 h1 g1 hb
  have m0 := Z.sm_len (B := Z.B77) (fun x => Nat.succ_le_succ (Nat.zero_le _)) l0
  have m1 := Z.sm_len (B := Z.B77) (fun x => Nat.succ_le_succ (Nat.zero_le _)) l1
  unfold Z.cambiumlaw18_StreamBack.f
  exact if_pos ⟨⟨g0, by omega⟩, ⟨g1, by omega⟩⟩
end Go.Proofs.YtfkofbabeghgkaaGreat.Pure
end

section
namespace Go.Proofs.YtfkofbabeghgkaaGreat.streamBack
open Go.ChangeShapes Go.WideShapes Go.ChangeAt Go.RowKit
open Go.ChangeMaps (open_string shut_string)
theorem own : ownKnob Tryz.prog.godebug = none := by kernel_rfl
theorem laidOut : laidOutB Tryz.prog = true := by kernel_rfl
set_option maxHeartbeats 1000000 in
set_option maxRecDepth 100000 in
theorem lifted (os : Os) (started : os.Started) (H : Type) (enc : TypeId × Value → H) (F : Stop.Interp) :
    ReturnsInHanded {} Tryz.checked os 4 .any ((Rows.OpenSpec.upto Rows.streamBackSpec).pre6 enc Tryz.prog Tryz.f4 Rows.streamBackUptoRow.domain false) (((Rows.OpenSpec.upto Rows.streamBackSpec).at F).post enc Tryz.prog Tryz.f4 false true false false) := by
  refine returnsInHanded_of_cond_sized (C := Tryz.checked) (s := Rows.OpenSpec.upto Rows.streamBackSpec) (k := Rows.uptoSmall) rfl own started (by kernel_rfl) Tryz.func4
    (OpenSpec.witness (enc := enc) (C := Tryz.checked) (s := Rows.OpenSpec.upto Rows.streamBackSpec) (k := Rows.uptoSmall) rfl false ⟨#[], #[.slice none 0 0, .slice none 0 0], []⟩ 8 (by kernel_rfl) (by kernel_rfl) (by kernel_rfl)
      (x := ([.nil, .nil], [], [])) (by kernel_rfl) rfl (by kernel_rfl)) ?_
  intro W base args ds gs before hval0 hW hcnd hk0 hwz_ _
  have hsz : (DataW.weightsEach Tryz.prog (Tryz.f4.params.toList ++ Rows.streamBackSpec.plain.varTypes Tryz.prog) (ds ++ gs)).all (· ≤ reachBytes) = true := hwz_
  have hval : ∀ (j : Nat) t v, Tryz.f4.params[j]? = some t → args[j]? = some v → Value.okWide Tryz.prog W .any base t v := hval0
  have hW' := hW
  obtain ⟨p, q, hA0, hV, rfl, hfz, hnd⟩ := hW
  have hA : DataW.TrodAll enc Tryz.prog W 0 (fun _ => true) true Tryz.f4.params.toList args.toList ds p := hA0
  rw [Tryz.params4] at hA hval hsz
  obtain ⟨v0, vs0, d0, ds0, p0, q0, hargs, rfl, rfl, h0, r0⟩ := trodAll_cons hA
  obtain ⟨v1, vs1, d1, ds1, p1, q1, rfl, rfl, rfl, h1, r1⟩ := trodAll_cons r0
  obtain ⟨rfl, rfl, rfl⟩ := trodAll_nil r1
  obtain rfl : args = #[v0, v1] := by cases args; simp_all
  obtain ⟨rfl, rfl⟩ := trodVars_none hV
  have k0 := h0
  have lt0 : ∀ x ∈ p0, x.block < W.heap.size := by obtain ⟨m, hm⟩ := k0; exact DataW.trod_lt m _ _ _ hm
  obtain ⟨a0, len0, cap0, rfl⟩ := okWide_slice Tryz.underlying22 (hval 0 22 v0 rfl rfl)
  obtain ⟨fuel0, hf0⟩ := h0
  obtain ⟨A0, c0, l0, hcs0, hlc0, hcm0, hC0, hG0, hB0, hx0⟩ := Z.Opens.row Tryz.underlying22 Z.opens77 (of_decide_eq_true (by kernel_rfl)) hf0
  simp only [Value.cells, List.cons.injEq, Value.slice.injEq, and_true] at hcs0
  obtain ⟨rfl, rfl, rfl⟩ := hcs0
  have hlm0 : l0.length ≤ maxLen := Nat.le_trans hlc0 hcm0
  have k1 := h1
  have lt1 : ∀ x ∈ p1, x.block < W.heap.size := by obtain ⟨m, hm⟩ := k1; exact DataW.trod_lt m _ _ _ hm
  obtain ⟨a1, len1, cap1, rfl⟩ := okWide_slice Tryz.underlying22 (hval 1 22 v1 rfl rfl)
  obtain ⟨fuel1, hf1⟩ := h1
  obtain ⟨A1, c1, l1, hcs1, hlc1, hcm1, hC1, hG1, hB1, hx1⟩ := Z.Opens.row Tryz.underlying22 Z.opens77 (of_decide_eq_true (by kernel_rfl)) hf1
  simp only [Value.cells, List.cons.injEq, Value.slice.injEq, and_true] at hcs1
  obtain ⟨rfl, rfl, rfl⟩ := hcs1
  have hlm1 : l1.length ≤ maxLen := Nat.le_trans hlc1 hcm1
  have hbk : ((l0.map Z.B77).sum + 1) + ((l1.map Z.B77).sum + 1) ≤ 1048576 := by
    have hb_ := of_decide_eq_true hk0
    simp only [Rows.uptoBulkAll, Rows.uptoBulk, List.append_nil, Array.length_toList, List.map_cons, List.map_nil] at hb_
    (try simp only [show ∀ s : ByteArray, s.data.size = s.size from fun _ => rfl] at hb_)
    (try dsimp only at hB0)
    (try dsimp only at hB1)
    omega
  have hP := Pure.StreamBack l0 l1 hlm0 hG0 hlm1 hG1 hbk
  refine (Z.cambiumlaw18_StreamBack.calls _ _ l0 _ _ l1 true W hC0 hlc0 hC1 hlc1 hP).mono fun e W' ⟨he, bel0⟩ => ?_
  have bel : Below W.heap.size W W' := bel0
  subst he
  exact ⟨_, rfl, _, _, _, [], _, [], hW', trodAll_mk1 (shut_bool Tryz.underlying4 _), (trodAll_cons_mk (Below.trod laidOut (by kernel_rfl) (of_decide_eq_true (by kernel_rfl)) k0 bel lt0) (trodAll_cons_mk (Below.trod laidOut (by kernel_rfl) (of_decide_eq_true (by kernel_rfl)) k1 bel lt1) trodAll_mk0)), rfl, bel.frame _, fun h => by cases h⟩
theorem over : Rows.streamBackUptoRow.holds Tryz.pinned (Rows.OpenSpec.upto Rows.streamBackSpec) :=
  OpenClaim.holds_of_cond 4 Tryz.f4 rfl rfl rfl rfl rfl rfl rfl ⟨rfl, rfl, rfl, rfl, rfl⟩ rfl rfl rfl rfl rfl (by kernel_rfl) Tryz.func4 (by kernel_rfl)
    (of_decide_eq_true (by kernel_rfl)) (by unfold Func.isWrapper; first | (rw [if_pos (by decide +kernel)]; kernel_rfl) | (rw [if_neg (by decide +kernel)]; exact ⟨rfl, rfl⟩))
    (fun os started H enc _ F => lifted os started H enc F)
end Go.Proofs.YtfkofbabeghgkaaGreat.streamBack
namespace Go.Proofs.YtfkofbabeghgkaaGreat
theorem streamBack_holds : Rows.StreamBackUptoSaid := streamBack.over
#print axioms streamBack_holds
end Go.Proofs.YtfkofbabeghgkaaGreat
end
