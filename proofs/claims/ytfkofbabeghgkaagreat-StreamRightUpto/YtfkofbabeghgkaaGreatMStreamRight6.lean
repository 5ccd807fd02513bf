/- StreamRightUpto: at every input the law's function returns true and leaves its arguments as they were; condition: the arguments are of bulk at most 1048576. Part 6 of 6: this session's own texts, laid together. -/
import Derived.Test.YtfkofbabeghgkaaGreatMB5
import Derived.Test.YtfkofbabeghgkaaGreatRows
import Derived.WalkKit
import Derived.ProofKit
import Derived.OpenShut
import Derived.ShutString
import Derived.ChangeOld
import Derived.Below
import Derived.SizedLaws
import Derived.Carry
import Derived.JoinedCond
import Derived.Deep.CondSized
open Go.RowKit Go.Proofs.YtfkofbabeghgkaaGreatW.PrintWords Go.Proofs.YtfkofbabeghgkaaGreatW.PrintLast Go.Proofs.YtfkofbabeghgkaaGreatW.PrintMore
set_option linter.unusedVariables false
set_option linter.unusedSimpArgs false
section
namespace Go.Proofs.YtfkofbabeghgkaaGreat.Z
open Go.Proofs.YtfkofbabeghgkaaGreat.PM
open Classical in
noncomputable def cambiumlaw18_StreamRight.f (l0 : List S77) (a1 : ByteArray) : Option Bool := if Sm l0 ∧ a1.size ≤ 1073741824 then some true else none
set_option maxRecDepth 100000 in
set_option maxHeartbeats 6400000 in
theorem cambiumlaw18_StreamRight.calls (A0 : Option Addr) (c0 : Nat) (l0 : List S77) (a1 : ByteArray) (r : Bool) (w : World) (hr0 : Kd.C k77 w A0 l0.length l0) (hc0 : l0.length ≤ c0) (h : cambiumlaw18_StreamRight.f l0 a1 = some r) : Calls Tryz.prog 6 #[.slice A0 l0.length c0, .string a1] w fun e w' => e = .returned (.bool r) ∧ Below w.heap.size w w' := by
  unfold cambiumlaw18_StreamRight.f at h
  by_cases hsm : Sm l0 ∧ a1.size ≤ 1073741824
  rotate_left
  · rw [if_neg hsm] at h; cases h
  rw [if_pos hsm] at h
  obtain rfl := Option.some.inj h
  clear h
  have HC0 := ak_ hr0
  have HP0 := ak_ hc0
  clear hr0 hc0
  have hz : a1.data.toList.length ≤ 1073741824 := by rw [Array.length_toList]; exact hsm.2
  have HSS := ak_ (show a1.size ≤ 4611686018427387904 by have := hsm.2; omega)
  by_cases hm : mayB rtB l0 = true
  · cases hr : recvB mkY rtB l0 a1.data.toList with
    | none =>
      obtain ⟨k1, h1⟩ := recv_no hsm.1 hz hm hr
      rw [data_ba] at h1
      have H1 := ak_ h1
      clear hm hr h1 hz hsm
      go_enter Tryz.func6, Tryz.ntmps6
      go_wp2_with (first
        | (go_at_call 18; refine (cambiumlaw18_lives.calls true _ rfl).mono ?_; rintro e w1 ⟨rfl, hb⟩; have B1 := ak_ hb; clear hb)
        | (go_at_call 12; (with_reducible refine (stream_Receive.calls k1 A0 c0 l0 a1 [] 16 _ (Kd.C_below HC0.out B1.out) HP0.out HSS.out H1.out).mono ?_); rintro e w2 ⟨v2, rfl, hR, hb⟩; obtain ⟨Ar, cr, rfl⟩ := Kd.R_slice hR; have Lr_2 := ak_ (Kd.R_reads' hR).2.2; have Pr := ak_ (Kd.R_reads' hR).2.1; have B2 := ak_ (below_step B1.out hb); clear hb hR))
      go_ret
      exact ⟨rfl, B2.out⟩
    | some m =>
      obtain ⟨k1, h1⟩ := recv_yes hsm.1 hz hr
      rw [data_ba] at h1
      obtain ⟨k2, h2⟩ := check_yes (recv_right hr) (by have := recv_len hr; have := hsm.1.2; omega)
      have H1 := ak_ h1
      have H2 := ak_ h2
      clear hm hr h1 h2 hz hsm
      go_enter Tryz.func6, Tryz.ntmps6
      go_wp2_with (first
        | (go_at_call 18; refine (cambiumlaw18_lives.calls true _ rfl).mono ?_; rintro e w1 ⟨rfl, hb⟩; have B1 := ak_ hb; clear hb)
        | (go_at_call 12; (with_reducible refine (stream_Receive.calls k1 A0 c0 l0 a1 m 0 _ (Kd.C_below HC0.out B1.out) HP0.out HSS.out H1.out).mono ?_); rintro e w2 ⟨v2, rfl, hR, hb⟩; obtain ⟨Ar, cr, rfl⟩ := Kd.R_slice hR; have Lr_2 := ak_ (Kd.R_reads' hR).2.2; have Pr := ak_ (Kd.R_reads' hR).2.1; have B2 := ak_ (below_step B1.out hb); clear hb hR)
        | (go_at_call 20; refine (dirs_Check.calls k2 Ar cr m 0 _ Lr_2.out Pr.out H2.out).mono ?_; rintro e w3 ⟨rfl, hb⟩; have B3 := ak_ (below_step B2.out hb); clear hb))
      go_ret
      exact ⟨rfl, B3.out⟩
  · obtain ⟨k1, h1⟩ := recv_bad (s := a1.data.toList) hsm.1 hz hm
    rw [data_ba] at h1
    have H1 := ak_ h1
    have hl : 0 < l0.length := by
      cases l0 with
      | nil => exact absurd rfl hm
      | cons x r => exact Nat.succ_pos _
    have c1 : decide ((0 : Int) < (l0.length : Int)) = true := decide_eq_true (by omega)
    have c2 : decide (0 < l0.length) = true := decide_eq_true hl
    clear hm h1 hz hsm hl
    go_enter Tryz.func6, Tryz.ntmps6
    go_wp2_with (first
      | (go_at_call 18; refine (cambiumlaw18_lives.calls true _ rfl).mono ?_; rintro e w1 ⟨rfl, hb⟩; have B1 := ak_ hb; clear hb)
      | (go_at_call 12; (with_reducible refine (stream_Receive.calls k1 A0 c0 l0 a1 [] 9 _ (Kd.C_below HC0.out B1.out) HP0.out HSS.out H1.out).mono ?_); rintro e w2 ⟨v2, rfl, hR, hb⟩; obtain ⟨Ar, cr, rfl⟩ := Kd.R_slice hR; have Lr_2 := ak_ (Kd.R_reads' hR).2.2; have Pr := ak_ (Kd.R_reads' hR).2.1; have B2 := ak_ (below_step B1.out hb); clear hb hR))
    go_ret
    exact ⟨rfl, B2.out⟩
end Go.Proofs.YtfkofbabeghgkaaGreat.Z
end

section
namespace Go.Proofs.YtfkofbabeghgkaaGreat.Pure
open Go.Proofs.YtfkofbabeghgkaaGreat Go.Proofs.YtfkofbabeghgkaaGreat.Z
theorem StreamRight : ∀ (l0 : List (S77)) (a1 : ByteArray), l0.length ≤ maxLen → (∀ x ∈ l0, Z.G77 x) → a1.size ≤ maxLen → ((l0.map Z.B77).sum + 1) + (a1.size + 1) ≤ 1048576 → Z.cambiumlaw18_StreamRight.f l0 a1 = some true := by
  intro l0 a1 h0 g0 h1 hb
  have m0 := Z.sm_len (B := Z.B77) (fun x => Nat.succ_le_succ (Nat.zero_le _)) l0
  unfold Z.cambiumlaw18_StreamRight.f
  exact if_pos ⟨⟨g0, by omega⟩, by omega⟩
end Go.Proofs.YtfkofbabeghgkaaGreat.Pure
end

section
namespace Go.Proofs.YtfkofbabeghgkaaGreat.streamRight
open Go.ChangeShapes Go.WideShapes Go.ChangeAt Go.RowKit
open Go.ChangeMaps (open_string shut_string)
theorem own : ownKnob Tryz.prog.godebug = none := by kernel_rfl
theorem laidOut : laidOutB Tryz.prog = true := by kernel_rfl
set_option maxHeartbeats 1000000 in
set_option maxRecDepth 100000 in
theorem lifted (os : Os) (started : os.Started) (H : Type) (enc : TypeId × Value → H) (F : Stop.Interp) :
    ReturnsInHanded {} Tryz.checked os 6 .any ((Rows.OpenSpec.upto Rows.streamRightSpec).pre6 enc Tryz.prog Tryz.f6 Rows.streamRightUptoRow.domain false) (((Rows.OpenSpec.upto Rows.streamRightSpec).at F).post enc Tryz.prog Tryz.f6 false true false false) := by
  refine returnsInHanded_of_cond_sized (C := Tryz.checked) (s := Rows.OpenSpec.upto Rows.streamRightSpec) (k := Rows.uptoSmall) rfl own started (by kernel_rfl) Tryz.func6
    (OpenSpec.witness (enc := enc) (C := Tryz.checked) (s := Rows.OpenSpec.upto Rows.streamRightSpec) (k := Rows.uptoSmall) rfl false ⟨#[], #[.slice none 0 0, .string ByteArray.empty], []⟩ 8 (by kernel_rfl) (by kernel_rfl) (by kernel_rfl)
      (x := ([.nil, .lit (.string [])], [], [])) (by kernel_rfl) rfl (by kernel_rfl)) ?_
  intro W base args ds gs before hval0 hW hcnd hk0 hwz_ _
  have hsz : (DataW.weightsEach Tryz.prog (Tryz.f6.params.toList ++ Rows.streamRightSpec.plain.varTypes Tryz.prog) (ds ++ gs)).all (· ≤ reachBytes) = true := hwz_
  have hval : ∀ (j : Nat) t v, Tryz.f6.params[j]? = some t → args[j]? = some v → Value.okWide Tryz.prog W .any base t v := hval0
  have hW' := hW
  obtain ⟨p, q, hA0, hV, rfl, hfz, hnd⟩ := hW
  have hA : DataW.TrodAll enc Tryz.prog W 0 (fun _ => true) true Tryz.f6.params.toList args.toList ds p := hA0
  rw [Tryz.params6] at hA hval hsz
  obtain ⟨v0, vs0, d0, ds0, p0, q0, hargs, rfl, rfl, h0, r0⟩ := trodAll_cons hA
  obtain ⟨v1, vs1, d1, ds1, p1, q1, rfl, rfl, rfl, h1, r1⟩ := trodAll_cons r0
  obtain ⟨rfl, rfl, rfl⟩ := trodAll_nil r1
  obtain rfl : args = #[v0, v1] := by cases args; simp_all
  obtain ⟨rfl, rfl⟩ := trodVars_none hV
  have k0 := h0
  have lt0 : ∀ x ∈ p0, x.block < W.heap.size := by obtain ⟨m, hm⟩ := k0; exact DataW.trod_lt m _ _ _ hm
  obtain ⟨a0, len0, cap0, rfl⟩ := okWide_slice Tryz.underlying22 (hval 0 22 v0 rfl rfl)
  obtain ⟨fuel0, hf0⟩ := h0
  obtain ⟨A0, c0, l0, hcs0, hlc0, hcm0, hC0, hG0, hB0, hx0⟩ := Z.Opens.row Tryz.underlying22 Z.opens77 (of_decide_eq_true (by kernel_rfl)) hf0
  simp only [Value.cells, List.cons.injEq, Value.slice.injEq, and_true] at hcs0
  obtain ⟨rfl, rfl, rfl⟩ := hcs0
  have hlm0 : l0.length ≤ maxLen := Nat.le_trans hlc0 hcm0
  have k1 := h1
  have lt1 : ∀ x ∈ p1, x.block < W.heap.size := by obtain ⟨m, hm⟩ := k1; exact DataW.trod_lt m _ _ _ hm
  obtain ⟨a1, rfl, rfl, rfl, y1⟩ := open_string Tryz.underlying9 (hval 1 9 v1 rfl rfl) h1
  have w1 := y1
  have hbk : ((l0.map Z.B77).sum + 1) + (a1.size + 1) ≤ 1048576 := by
    have hb_ := of_decide_eq_true hk0
    simp only [Rows.uptoBulkAll, Rows.uptoBulk, List.append_nil, Array.length_toList, List.map_cons, List.map_nil] at hb_
    (try simp only [show ∀ s : ByteArray, s.data.size = s.size from fun _ => rfl] at hb_)
    (try dsimp only at hB0)
    omega
  have hP := Pure.StreamRight l0 a1 hlm0 hG0 w1 hbk
  refine (Z.cambiumlaw18_StreamRight.calls _ _ l0 a1 true W hC0 hlc0 hP).mono fun e W' ⟨he, bel0⟩ => ?_
  have bel : Below W.heap.size W W' := bel0
  subst he
  exact ⟨_, rfl, _, _, _, [], _, [], hW', trodAll_mk1 (shut_bool Tryz.underlying4 _), (trodAll_cons_mk (Below.trod laidOut (by kernel_rfl) (of_decide_eq_true (by kernel_rfl)) k0 bel lt0) (trodAll_cons_mk (Below.trod laidOut (by kernel_rfl) (of_decide_eq_true (by kernel_rfl)) k1 bel lt1) trodAll_mk0)), rfl, bel.frame _, fun h => by cases h⟩
theorem over : Rows.streamRightUptoRow.holds Tryz.pinned (Rows.OpenSpec.upto Rows.streamRightSpec) :=
  OpenClaim.holds_of_cond 6 Tryz.f6 rfl rfl rfl rfl rfl rfl rfl ⟨rfl, rfl, rfl, rfl, rfl⟩ rfl rfl rfl rfl rfl (by kernel_rfl) Tryz.func6 (by kernel_rfl)
    (of_decide_eq_true (by kernel_rfl)) (by unfold Func.isWrapper; first | (rw [if_pos (by decide +kernel)]; kernel_rfl) | (rw [if_neg (by decide +kernel)]; exact ⟨rfl, rfl⟩))
    (fun os started H enc _ F => lifted os started H enc F)
end Go.Proofs.YtfkofbabeghgkaaGreat.streamRight
namespace Go.Proofs.YtfkofbabeghgkaaGreat
theorem streamRight_holds : Rows.StreamRightUptoSaid := streamRight.over
#print axioms streamRight_holds
end Go.Proofs.YtfkofbabeghgkaaGreat
end
