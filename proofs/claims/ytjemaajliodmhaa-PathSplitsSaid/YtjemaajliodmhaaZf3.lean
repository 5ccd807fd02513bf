-- Printed by a program of this session (mp.py) out of the translation.
import Derived.Test.YtjemaajliodmhaaZ0
import Derived.Test.YtjemaajliodmhaaZf9
import Derived.Test.YtjemaajliodmhaaZf16
import Derived.Test.YtjemaajliodmhaaZf10
import Derived.Test.YtjemaajliodmhaaZf13
import Derived.Test.YtjemaajliodmhaaZf14
import Derived.Test.YtjemaajliodmhaaHLast
import Derived.Test.YtjemaajliodmhaaHPath
namespace Go.Proofs.Ytjemaajliodmhaa.Z
open Go.RowKit Go.Proofs.YtjemaajliodmhaaW.PrintWords Go.Proofs.YtjemaajliodmhaaW.PrintLast Go.Proofs.YtjemaajliodmhaaW.PrintMore
attribute [local go_sem] max2_int min2_int max_two min_two max_three min_three max_four min_four   -- for this text's walks alone
set_option linter.unusedVariables false
set_option linter.unusedSimpArgs false

/-! ### cambiumlaw11_PathSplits: function 3 -/
def cambiumlaw11_PathSplits.f (k : Nat) (a0 : ByteArray) : Option (Bool) := (path_Split.f k a0).bind fun bt156 => ((cambiumref11_Split.f k a0).bind fun bt160 => ((path_Last.f k a0).bind fun bt164 => ((cambiumref11_Last.f k a0).bind fun bt169 => ((cambiumlaw11_lives.f k).bind fun t174 => (if t174 = true then ((cambiumref11_Same.f k bt156.1 bt160.1).bind fun t175 => (if t175 = true then (if bt156.2 = bt160.2 then ((cambiumref11_Same.f k bt164.1 bt169.1).bind fun t176 => (if t176 = true then (if bt164.2.1.toList = bt169.2.1.toList then (if bt164.2.2 = bt169.2.2 then ((path_Name.f a0).bind fun t177 => ((cambiumref11_Name.f k a0).bind fun t178 => (some (t177 == t178)))) else (some false)) else (some false)) else (some false))) else (some false)) else (some false))) else (some false))))))
theorem cambiumlaw11_PathSplits.mono : ∀ a0 k, LeO (cambiumlaw11_PathSplits.f k a0) (cambiumlaw11_PathSplits.f (k + 1) a0) := by
  intro a0 k
  unfold cambiumlaw11_PathSplits.f
  repeat' first
      | (with_reducible exact cambiumlaw11_lives.mono _)
      | (with_reducible exact cambiumref11_Last.mono _ _)
      | (with_reducible exact cambiumref11_Name.mono _ _)
      | (with_reducible exact cambiumref11_Same.mono _ _ _)
      | (with_reducible exact cambiumref11_Split.mono _ _)
      | (with_reducible exact path_Last.mono _ _)
      | (with_reducible exact path_Split.mono _ _)
      | (with_reducible exact LeO.refl _)
      | (with_reducible exact LeO.none _)
      | (with_reducible refine LeO.ite ?_ ?_)
      | (with_reducible refine LeO.bind ?_ (fun _ => ?_))
      | exact cambiumlaw11_lives.mono _
      | exact cambiumref11_Last.mono _ _
      | exact cambiumref11_Name.mono _ _
      | exact cambiumref11_Same.mono _ _ _
      | exact cambiumref11_Split.mono _ _
      | exact path_Last.mono _ _
      | exact path_Split.mono _ _
      | exact LeO.none _
      | refine LeO.ite ?_ ?_
      | refine LeO.bind ?_ (fun _ => ?_)
set_option maxHeartbeats 8000000 in
set_option maxRecDepth 100000 in
theorem cambiumlaw11_PathSplits.calls (k : Nat) (a0 : ByteArray) (r : Bool) (w : World) (h : cambiumlaw11_PathSplits.f k a0 = some r) (hT_ : r = true := by rfl) :
    Calls Try.prog 3 #[.string a0] w fun e w' => e = .returned (.bool r) ∧ Below w.heap.size w w' := by
  have HT_ := Aside0.mk hT_
  clear hT_
  have HB := Aside0.mk (Below.refl w.heap.size w)
  have H : ((path_Split.f k a0).bind fun bt156 => ((cambiumref11_Split.f k a0).bind fun bt160 => ((path_Last.f k a0).bind fun bt164 => ((cambiumref11_Last.f k a0).bind fun bt169 => ((cambiumlaw11_lives.f k).bind fun t174 => (if t174 = true then ((cambiumref11_Same.f k bt156.1 bt160.1).bind fun t175 => (if t175 = true then (if bt156.2 = bt160.2 then ((cambiumref11_Same.f k bt164.1 bt169.1).bind fun t176 => (if t176 = true then (if bt164.2.1.toList = bt169.2.1.toList then (if bt164.2.2 = bt169.2.2 then ((path_Name.f a0).bind fun t177 => ((cambiumref11_Name.f k a0).bind fun t178 => (some (t177 == t178)))) else (some false)) else (some false)) else (some false))) else (some false)) else (some false))) else (some false))))))) = some r := h
  clear h
  replace H := Option.bind_eq_some_iff.mp H
  obtain ⟨⟨t156, t157⟩, A20, H⟩ := H
  replace H : ((cambiumref11_Split.f k a0).bind fun bt160 => ((path_Last.f k a0).bind fun bt164 => ((cambiumref11_Last.f k a0).bind fun bt169 => ((cambiumlaw11_lives.f k).bind fun t174 => (if t174 = true then ((cambiumref11_Same.f k t156 bt160.1).bind fun t175 => (if t175 = true then (if t157 = bt160.2 then ((cambiumref11_Same.f k bt164.1 bt169.1).bind fun t176 => (if t176 = true then (if bt164.2.1.toList = bt169.2.1.toList then (if bt164.2.2 = bt169.2.2 then ((path_Name.f a0).bind fun t177 => ((cambiumref11_Name.f k a0).bind fun t178 => (some (t177 == t178)))) else (some false)) else (some false)) else (some false))) else (some false)) else (some false))) else (some false)))))) = some r := H
  have A2 := Aside0.mk A20
  clear A20
  replace H := Option.bind_eq_some_iff.mp H
  obtain ⟨⟨t160, t161⟩, A30, H⟩ := H
  replace H : ((path_Last.f k a0).bind fun bt164 => ((cambiumref11_Last.f k a0).bind fun bt169 => ((cambiumlaw11_lives.f k).bind fun t174 => (if t174 = true then ((cambiumref11_Same.f k t156 t160).bind fun t175 => (if t175 = true then (if t157 = t161 then ((cambiumref11_Same.f k bt164.1 bt169.1).bind fun t176 => (if t176 = true then (if bt164.2.1.toList = bt169.2.1.toList then (if bt164.2.2 = bt169.2.2 then ((path_Name.f a0).bind fun t177 => ((cambiumref11_Name.f k a0).bind fun t178 => (some (t177 == t178)))) else (some false)) else (some false)) else (some false))) else (some false)) else (some false))) else (some false))))) = some r := H
  have A3 := Aside0.mk A30
  clear A30
  replace H := Option.bind_eq_some_iff.mp H
  obtain ⟨⟨t164, t167, t168⟩, A40, H⟩ := H
  replace H : ((cambiumref11_Last.f k a0).bind fun bt169 => ((cambiumlaw11_lives.f k).bind fun t174 => (if t174 = true then ((cambiumref11_Same.f k t156 t160).bind fun t175 => (if t175 = true then (if t157 = t161 then ((cambiumref11_Same.f k t164 bt169.1).bind fun t176 => (if t176 = true then (if t167.toList = bt169.2.1.toList then (if t168 = bt169.2.2 then ((path_Name.f a0).bind fun t177 => ((cambiumref11_Name.f k a0).bind fun t178 => (some (t177 == t178)))) else (some false)) else (some false)) else (some false))) else (some false)) else (some false))) else (some false)))) = some r := H
  have A4 := Aside0.mk A40
  clear A40
  replace H := Option.bind_eq_some_iff.mp H
  obtain ⟨⟨t169, t172, t173⟩, A50, H⟩ := H
  replace H : ((cambiumlaw11_lives.f k).bind fun t174 => (if t174 = true then ((cambiumref11_Same.f k t156 t160).bind fun t175 => (if t175 = true then (if t157 = t161 then ((cambiumref11_Same.f k t164 t169).bind fun t176 => (if t176 = true then (if t167.toList = t172.toList then (if t168 = t173 then ((path_Name.f a0).bind fun t177 => ((cambiumref11_Name.f k a0).bind fun t178 => (some (t177 == t178)))) else (some false)) else (some false)) else (some false))) else (some false)) else (some false))) else (some false))) = some r := H
  have A5 := Aside0.mk A50
  clear A50
  replace H := Option.bind_eq_some_iff.mp H
  obtain ⟨t174, A60, H⟩ := H
  replace H : (if t174 = true then ((cambiumref11_Same.f k t156 t160).bind fun t175 => (if t175 = true then (if t157 = t161 then ((cambiumref11_Same.f k t164 t169).bind fun t176 => (if t176 = true then (if t167.toList = t172.toList then (if t168 = t173 then ((path_Name.f a0).bind fun t177 => ((cambiumref11_Name.f k a0).bind fun t178 => (some (t177 == t178)))) else (some false)) else (some false)) else (some false))) else (some false)) else (some false))) else (some false)) = some r := H
  have A6 := Aside0.mk A60
  clear A60
  by_cases c7 : t174 = true
  · subst c7
    have H1 : ((cambiumref11_Same.f k t156 t160).bind fun t175 => (if t175 = true then (if t157 = t161 then ((cambiumref11_Same.f k t164 t169).bind fun t176 => (if t176 = true then (if t167.toList = t172.toList then (if t168 = t173 then ((path_Name.f a0).bind fun t177 => ((cambiumref11_Name.f k a0).bind fun t178 => (some (t177 == t178)))) else (some false)) else (some false)) else (some false))) else (some false)) else (some false))) = some r := by rw [if_pos rfl] at H; exact H
    clear H
    have H := H1
    clear H1
    replace H := Option.bind_eq_some_iff.mp H
    obtain ⟨t175, A80, H⟩ := H
    replace H : (if t175 = true then (if t157 = t161 then ((cambiumref11_Same.f k t164 t169).bind fun t176 => (if t176 = true then (if t167.toList = t172.toList then (if t168 = t173 then ((path_Name.f a0).bind fun t177 => ((cambiumref11_Name.f k a0).bind fun t178 => (some (t177 == t178)))) else (some false)) else (some false)) else (some false))) else (some false)) else (some false)) = some r := H
    have A8 := Aside0.mk A80
    clear A80
    by_cases c9 : t175 = true
    · subst c9
      have H1 : (if t157 = t161 then ((cambiumref11_Same.f k t164 t169).bind fun t176 => (if t176 = true then (if t167.toList = t172.toList then (if t168 = t173 then ((path_Name.f a0).bind fun t177 => ((cambiumref11_Name.f k a0).bind fun t178 => (some (t177 == t178)))) else (some false)) else (some false)) else (some false))) else (some false)) = some r := by rw [if_pos rfl] at H; exact H
      clear H
      have H := H1
      clear H1
      by_cases c10 : t157 = t161
      · rw [if_pos c10] at H
        have c10b0 : (t157 == t161) = true := beq_iff_eq.mpr c10
        have c10b1 : (t157 != t161) = false := bne_eq_false_iff_eq.mpr c10
        clear c10
        replace H := Option.bind_eq_some_iff.mp H
        obtain ⟨t176, A110, H⟩ := H
        replace H : (if t176 = true then (if t167.toList = t172.toList then (if t168 = t173 then ((path_Name.f a0).bind fun t177 => ((cambiumref11_Name.f k a0).bind fun t178 => (some (t177 == t178)))) else (some false)) else (some false)) else (some false)) = some r := H
        have A11 := Aside0.mk A110
        clear A110
        by_cases c12 : t176 = true
        · subst c12
          have H1 : (if t167.toList = t172.toList then (if t168 = t173 then ((path_Name.f a0).bind fun t177 => ((cambiumref11_Name.f k a0).bind fun t178 => (some (t177 == t178)))) else (some false)) else (some false)) = some r := by rw [if_pos rfl] at H; exact H
          clear H
          have H := H1
          clear H1
          by_cases c13 : t167.toList = t172.toList
          · rw [if_pos c13] at H
            have c13b0 : (t167.toList == t172.toList) = true := beq_iff_eq.mpr c13
            have c13b1 : (t167.toList != t172.toList) = false := bne_eq_false_iff_eq.mpr c13
            clear c13
            by_cases c14 : t168 = t173
            · rw [if_pos c14] at H
              have c14b0 : (t168 == t173) = true := beq_iff_eq.mpr c14
              have c14b1 : (t168 != t173) = false := bne_eq_false_iff_eq.mpr c14
              clear c14
              replace H := Option.bind_eq_some_iff.mp H
              obtain ⟨t177, A150, H⟩ := H
              replace H : ((cambiumref11_Name.f k a0).bind fun t178 => (some (t177 == t178))) = some r := H
              have A15 := Aside0.mk A150
              clear A150
              replace H := Option.bind_eq_some_iff.mp H
              obtain ⟨t178, A160, H⟩ := H
              replace H : (some (t177 == t178)) = some r := H
              have A16 := Aside0.mk A160
              clear A160
              obtain rfl := Option.some.inj H
              go_enter Try.func3, Try.ntmps3
              go_wp2_with (first | ((with_reducible refine gate_callee (f := 9) rfl ?_); refine goesL_ (some 15) rfl rfl Try.func9 (by kernel_rfl) rfl #[.string a0] rfl (by (try simp only [List.map_toArray, List.map_cons, List.map_nil]); first | done | rfl | (simp only [List.length_drop, List.length_take]; rfl)) ?_; (with_reducible refine (path_Split.calls k a0 t156 t157 _ A2.out).mono ?_); rintro e w17 ⟨v158, rfl, ho0, hb⟩; refine ⟨_, rfl, ?_⟩; have n0_ := Aside0.mk (Kd.R_lower ho0 (below_size (by repeat (first | (with_reducible first | exact HB.out | apply below_alloc | apply pw_below_drewN | apply below_drew1) | exact HB.out)))); have n1_ := Aside0.mk (below_step (by repeat (first | (with_reducible first | exact HB.out | apply below_alloc | apply pw_below_drewN | apply below_drew1) | exact HB.out)) hb); clear HB; have HO159 := n0_; have HB := n1_; clear n0_ n1_; (try clear hb); (try clear hb2); (try clear hk); (try clear hi); (try clear ho0)) | ((with_reducible refine gate_callee (f := 10) rfl ?_); refine goesL_ (some 20) rfl rfl Try.func10 (by kernel_rfl) rfl #[.string a0] rfl (by (try simp only [List.map_toArray, List.map_cons, List.map_nil]); first | done | rfl | (simp only [List.length_drop, List.length_take]; rfl)) ?_; (with_reducible refine (cambiumref11_Split.calls k a0 t160 t161 _ A3.out).mono ?_); rintro e w18 ⟨v162, rfl, ho0, hb⟩; refine ⟨_, rfl, ?_⟩; have n0_ := Aside0.mk (Kd.R_elder' (by (with_reducible repeat (first | apply Kd.R_alloc | apply Kd.R_drewN | apply Kd.R_drew)); exact HO159.out) (Kd.R_base ho0) hb); have n1_ := Aside0.mk (Kd.R_lower (Kd.R_new' ho0 (Kd.R_lt (by (with_reducible repeat (first | apply Kd.R_alloc | apply Kd.R_drewN | apply Kd.R_drew)); exact HO159.out))) (below_size (by repeat (first | (with_reducible first | exact HB.out | apply below_alloc | apply pw_below_drewN | apply below_drew1) | exact HB.out)))); have n2_ := Aside0.mk (below_step (by repeat (first | (with_reducible first | exact HB.out | apply below_alloc | apply pw_below_drewN | apply below_drew1) | exact HB.out)) hb); clear HO159; clear HB; have HO159 := n0_; have HO163 := n1_; have HB := n2_; clear n0_ n1_ n2_; (try clear hb); (try clear hb2); (try clear hk); (try clear hi); (try clear ho0)) | ((with_reducible refine gate_callee (f := 11) rfl ?_); refine goesL_ (some 25) rfl rfl Try.func11 (by kernel_rfl) rfl #[.string a0] rfl (by (try simp only [List.map_toArray, List.map_cons, List.map_nil]); first | done | rfl | (simp only [List.length_drop, List.length_take]; rfl)) ?_; (with_reducible refine (path_Last.calls k a0 t164 t167 t168 _ A4.out).mono ?_); rintro e w19 ⟨v165, rfl, ho0, hb⟩; refine ⟨_, rfl, ?_⟩; have n0_ := Aside0.mk (Kd.R_below (by (with_reducible repeat (first | apply Kd.R_alloc | apply Kd.R_drewN | apply Kd.R_drew)); exact HO159.out) hb); have n1_ := Aside0.mk (Kd.R_below (by (with_reducible repeat (first | apply Kd.R_alloc | apply Kd.R_drewN | apply Kd.R_drew)); exact HO163.out) hb); have n2_ := Aside0.mk (Kd.V_lower (Kd.V_mono (ok' := fun k_ => some k_ ≠ (v158 : Value).ownBlock ∧ some k_ ≠ (v162 : Value).ownBlock) ho0 (fun k_ hk_ => ⟨(Kd.fresh' (Kd.R_lt (by (with_reducible repeat (first | apply Kd.R_alloc | apply Kd.R_drewN | apply Kd.R_drew)); exact HO159.out)) k_ hk_), (Kd.fresh' (Kd.R_lt (by (with_reducible repeat (first | apply Kd.R_alloc | apply Kd.R_drewN | apply Kd.R_drew)); exact HO163.out)) k_ hk_)⟩)) (below_size (by repeat (first | (with_reducible first | exact HB.out | apply below_alloc | apply pw_below_drewN | apply below_drew1) | exact HB.out)))); have n3_ := Aside0.mk (below_step (by repeat (first | (with_reducible first | exact HB.out | apply below_alloc | apply pw_below_drewN | apply below_drew1) | exact HB.out)) hb); clear HO159; clear HO163; clear HB; have HO159 := n0_; have HO163 := n1_; have HO166 := n2_; have HB := n3_; clear n0_ n1_ n2_ n3_; (try clear hb); (try clear hb2); (try clear hk); (try clear hi); (try clear ho0)) | ((with_reducible refine gate_callee (f := 12) rfl ?_); refine goesL_ (some 31) rfl rfl Try.func12 (by kernel_rfl) rfl #[.string a0] rfl (by (try simp only [List.map_toArray, List.map_cons, List.map_nil]); first | done | rfl | (simp only [List.length_drop, List.length_take]; rfl)) ?_; (with_reducible refine (cambiumref11_Last.calls k a0 t169 t172 t173 _ A5.out).mono ?_); rintro e w20 ⟨v170, rfl, ho0, hb⟩; refine ⟨_, rfl, ?_⟩; have n0_ := Aside0.mk (Kd.R_below (by (with_reducible repeat (first | apply Kd.R_alloc | apply Kd.R_drewN | apply Kd.R_drew)); exact HO159.out) hb); have n1_ := Aside0.mk (Kd.R_below (by (with_reducible repeat (first | apply Kd.R_alloc | apply Kd.R_drewN | apply Kd.R_drew)); exact HO163.out) hb); have n2_ := Aside0.mk (Kd.V_below (by (with_reducible repeat (first | apply Kd.V_alloc | apply Kd.V_drewN | apply Kd.V_drew)); exact HO166.out) hb); have n3_ := Aside0.mk (Kd.V_lower (Kd.V_mono (ok' := fun k_ => some k_ ≠ (v158 : Value).ownBlock ∧ some k_ ≠ (v162 : Value).ownBlock) ho0 (fun k_ hk_ => ⟨(Kd.fresh' (Kd.R_lt (by (with_reducible repeat (first | apply Kd.R_alloc | apply Kd.R_drewN | apply Kd.R_drew)); exact HO159.out)) k_ hk_), (Kd.fresh' (Kd.R_lt (by (with_reducible repeat (first | apply Kd.R_alloc | apply Kd.R_drewN | apply Kd.R_drew)); exact HO163.out)) k_ hk_)⟩)) (below_size (by repeat (first | (with_reducible first | exact HB.out | apply below_alloc | apply pw_below_drewN | apply below_drew1) | exact HB.out)))); have n4_ := Aside0.mk (below_step (by repeat (first | (with_reducible first | exact HB.out | apply below_alloc | apply pw_below_drewN | apply below_drew1) | exact HB.out)) hb); clear HO159; clear HO163; clear HO166; clear HB; have HO159 := n0_; have HO163 := n1_; have HO166 := n2_; have HO171 := n3_; have HB := n4_; clear n0_ n1_ n2_ n3_ n4_; (try clear hb); (try clear hb2); (try clear hk); (try clear hi); (try clear ho0)) | ((with_reducible refine gate_callee (f := 13) rfl ?_); refine goesL_ (some 35) rfl rfl Try.func13 (by kernel_rfl) rfl #[] rfl (by (try simp only [List.map_toArray, List.map_cons, List.map_nil]); first | done | rfl | (simp only [List.length_drop, List.length_take]; rfl)) ?_; (with_reducible refine (cambiumlaw11_lives.calls k  true _ A6.out).mono ?_); rintro e w21 ⟨rfl, hb⟩; refine ⟨_, rfl, ?_⟩; have n0_ := Aside0.mk (Kd.R_below (by (with_reducible repeat (first | apply Kd.R_alloc | apply Kd.R_drewN | apply Kd.R_drew)); exact HO159.out) hb); have n1_ := Aside0.mk (Kd.R_below (by (with_reducible repeat (first | apply Kd.R_alloc | apply Kd.R_drewN | apply Kd.R_drew)); exact HO163.out) hb); have n2_ := Aside0.mk (Kd.V_below (by (with_reducible repeat (first | apply Kd.V_alloc | apply Kd.V_drewN | apply Kd.V_drew)); exact HO166.out) hb); have n3_ := Aside0.mk (Kd.V_below (by (with_reducible repeat (first | apply Kd.V_alloc | apply Kd.V_drewN | apply Kd.V_drew)); exact HO171.out) hb); have n4_ := Aside0.mk (below_step (by repeat (first | (with_reducible first | exact HB.out | apply below_alloc | apply pw_below_drewN | apply below_drew1) | exact HB.out)) hb); clear HO159; clear HO163; clear HO166; clear HO171; clear HB; have HO159 := n0_; have HO163 := n1_; have HO166 := n2_; have HO171 := n3_; have HB := n4_; clear n0_ n1_ n2_ n3_ n4_; (try clear hb); (try clear hb2); (try clear hk); (try clear hi); obtain ⟨Ao22, co22, eo22⟩ := Kd.R_slice HO159.out; subst eo22; obtain ⟨Ao23, co23, eo23⟩ := Kd.R_slice HO163.out; subst eo23) | (go_at_call 14; (with_reducible refine (cambiumref11_Same.calls k _ _ t156 _ _ t160 true _ ?side1 ?side2 ?side3 ?side4 A8.out).mono ?_); (case side1 => repeat (first | exact (Kd.R_reads' HO159.out).2.2 | (with_reducible refine Kd.C_alloc ?_ _) | (with_reducible refine Kd.C_drewN ?_ _) | (with_reducible refine Kd.C_drew ?_))); (case side2 => exact (Kd.R_reads' HO159.out).2.1); (case side3 => repeat (first | exact (Kd.R_reads' HO163.out).2.2 | (with_reducible refine Kd.C_alloc ?_ _) | (with_reducible refine Kd.C_drewN ?_ _) | (with_reducible refine Kd.C_drew ?_))); (case side4 => exact (Kd.R_reads' HO163.out).2.1); rintro e w' ⟨rfl, ⟨nd, rfl⟩⟩; obtain ⟨Ao24, co24, eo24⟩ := Kd.V_slice HO166.out; subst eo24; obtain ⟨Ao25, co25, eo25⟩ := Kd.V_slice HO171.out; subst eo25) | (go_at_call 14; (with_reducible refine (cambiumref11_Same.calls k _ _ t164 _ _ t169 true _ ?side1 ?side2 ?side3 ?side4 A11.out).mono ?_); (case side1 => repeat (first | exact (Kd.V_reads' HO166.out).2.2 | (with_reducible refine Kd.C_alloc ?_ _) | (with_reducible refine Kd.C_drewN ?_ _) | (with_reducible refine Kd.C_drew ?_))); (case side2 => exact (Kd.V_reads' HO166.out).2.1); (case side3 => repeat (first | exact (Kd.V_reads' HO171.out).2.2 | (with_reducible refine Kd.C_alloc ?_ _) | (with_reducible refine Kd.C_drewN ?_ _) | (with_reducible refine Kd.C_drew ?_))); (case side4 => exact (Kd.V_reads' HO171.out).2.1); rintro e w' ⟨rfl, ⟨nd, rfl⟩⟩) | (go_at_call 15; (with_reducible refine (path_Name.calls a0 t177 _ A15.out).mono ?_); rintro e w' ⟨rfl, ⟨nd, rfl⟩⟩) | (go_at_call 16; (with_reducible refine (cambiumref11_Name.calls k a0 t178 _ A16.out).mono ?_); rintro e w' ⟨rfl, ⟨nd, rfl⟩⟩))
              go_ret
              exact ⟨by first | rfl | (simp [errW_none, errW_some] <;> rfl) | (simp [*, errW_none, errW_some] <;> rfl), by repeat (first | (with_reducible first | exact HB.out | apply below_alloc | apply pw_below_drewN | apply below_drew1) | exact HB.out)⟩
            · rw [if_neg c14] at H
              have c14b0 : (t168 == t173) = false := beq_eq_false_iff_ne.mpr c14
              have c14b1 : (t168 != t173) = true := bne_iff_ne.mpr c14
              exact absurd ((Option.some.inj H).trans HT_.out) (by simp)
          · rw [if_neg c13] at H
            have c13b0 : (t167.toList == t172.toList) = false := beq_eq_false_iff_ne.mpr c13
            have c13b1 : (t167.toList != t172.toList) = true := bne_iff_ne.mpr c13
            exact absurd ((Option.some.inj H).trans HT_.out) (by simp)
        · replace c12 := Bool.eq_false_iff.mpr c12
          subst c12
          have H1 : (some false) = some r := by rw [if_neg (show ¬ (false = true) by decide)] at H; exact H
          clear H
          have H := H1
          clear H1
          exact absurd ((Option.some.inj H).trans HT_.out) (by simp)
      · rw [if_neg c10] at H
        have c10b0 : (t157 == t161) = false := beq_eq_false_iff_ne.mpr c10
        have c10b1 : (t157 != t161) = true := bne_iff_ne.mpr c10
        exact absurd ((Option.some.inj H).trans HT_.out) (by simp)
    · replace c9 := Bool.eq_false_iff.mpr c9
      subst c9
      have H1 : (some false) = some r := by rw [if_neg (show ¬ (false = true) by decide)] at H; exact H
      clear H
      have H := H1
      clear H1
      exact absurd ((Option.some.inj H).trans HT_.out) (by simp)
  · replace c7 := Bool.eq_false_iff.mpr c7
    subst c7
    have H1 : (some false) = some r := by rw [if_neg (show ¬ (false = true) by decide)] at H; exact H
    clear H
    have H := H1
    clear H1
    exact absurd ((Option.some.inj H).trans HT_.out) (by simp)

end Go.Proofs.Ytjemaajliodmhaa.Z
