/- This session's own texts, laid together (a part that several claims share). -/
import Derived.Test.YtpnmajblhgnkoaaMB2
import Derived.Test.YtpnmajblhgnkoaaMB1
import Derived.Lib.AppendZeros
import Derived.LoopTactic
import Derived.Lib.IndexLaws
import Derived.Lib.Join
import Derived.Lib.SmallJoins
section
/- dirs: (*Volume).look (printed by genlook.py). -/
namespace Go.Proofs.Ytpnmajblhgnkoaa.Z
open Go.RowKit Go.Proofs.YtpnmajblhgnkoaaW.PrintWords Go.Proofs.YtpnmajblhgnkoaaW.PrintLast Go.Proofs.YtpnmajblhgnkoaaW.PrintMore
set_option linter.unusedVariables false
set_option linter.unusedSimpArgs false
attribute [local go_sem ↓] Go.wp_at_zero Go.wp_at_succ
def lookAll (s : VS) : List KItm → Bool
  | [] => true
  | x :: r => if x.f0 = 1 ∧ ¬ x.f1 = 1 then
      (if IntKind.u64.wrap ((s.up x.f1).getD (0, 0)).1 = IntKind.u64.wrap ((s.ino x.f1).getD zI).ln then
        (if ((s.ino x.f1).getD zI).kd = 1 then (if rootedL s.up s.all.length x.f1 = true then lookAll s r else false) else lookAll s r) else false) else lookAll s r
def lookF (k : Nat) (l : List VIT) : Option (Option VS) := (parseF k l).bind fun o => match o with
  | none => some none
  | some s => (misfitL k s s.all).bind fun b => if b = true then some none else some (if lookAll s s.all = true then some s else none)
theorem lookF.mono (l : List VIT) : ∀ k, LeO (lookF k l) (lookF (k + 1) l) := fun k => by
  unfold lookF
  refine LeO.bind (parseF.mono _ _) (fun o => ?_)
  cases o with
  | none => exact LeO.refl _
  | some s => exact LeO.bind (misfitL.mono _ _ _) (fun _ => LeO.refl _)
theorem VolR.setR {w : World} {g base : Nat} {it : Value} {d m sm : Int} {r : Bool} {s : VS} (h : VolR w g base it d m sm r s) : VolR (w.setCell ⟨g, 4, none⟩ (.bool true)) g base it d m sm true s := by
  obtain ⟨va, bi, bu, hG, hA, hI, hU, hbi, hbu, hne, hgb, hok⟩ := h
  exact ⟨va, bi, bu, blk_set hG 4 _, row_setg hA hgb 4 _, hI.move (Below.heap_setCell _ ⟨g, 4, none⟩ _ bi (by show bi ≠ g; omega)), hU.move (Below.heap_setCell _ ⟨g, 4, none⟩ _ bu (by show bu ≠ g; omega)), hbi, hbu, hne, hgb, hok⟩
set_option maxRecDepth 100000 in
set_option maxHeartbeats 12800000 in
theorem look_calls (k : Nat) (g : Nat) (A : Option Addr) (c : Nat) (l : List VIT) (d m sm : Int) (o : Option VS) (w : World) (hb : w.heap[g]? = some (volO (.slice A l.length c) (.slice none 0 0) (.map none) (.map none) d m sm false)) (hF : ∀ W', KeepBut w W' g none → Kd.C k61 W' A l.length l) (hc : l.length ≤ c) (h : lookF k l = some o) :
    Calls Try.prog 23 #[.pointer (some ⟨g, 0, none⟩)] w fun e w' => e = .returned (.tuple #[]) ∧ Fr g w w' ∧ (∀ s, o = some s → VolR w' g w.heap.size (.slice A l.length c) d m sm true s) ∧ ∃ va vi vu, w'.heap[g]? = some (volO (.slice A l.length c) va vi vu d m sm o.isSome) := by
  unfold lookF at h
  obtain ⟨po, hpo, h⟩ := Option.bind_eq_some_iff.mp h
  have HB := Aside0.mk hb
  have HF := Aside0.mk hF
  have HCC := Aside0.mk hc
  have HPO := Aside0.mk hpo
  have HO := Aside0.mk h
  have hnot : ∀ (x : Bool) (w : World), (Op.unary .not (.bool x)).run Try.prog w = .ok (.bool (!x)) w := fun _ _ => rfl
  have hmf : ∀ (fn : Fn) (first cap : Array Value) (w : World), (Instr.makeFunc fn first cap).run Try.prog w = .ok (.func fn first cap) w := fun _ _ _ _ => rfl
  clear hpo h hF hc hb
  cases po with
  | none =>
    go_enter Try.func23, Try.ntmps23
    go_wp2_with (first | (go_at_call 35; refine (parse_calls k g A c l d m sm none _ HB.out HF.out HCC.out HPO.out).mono ?_; rintro e w1 ⟨rfl, hf1, hv1, hb1⟩; have F1 := Aside0.mk hf1; have B1 := Aside0.mk hb1; clear hf1 hv1 hb1))
    refine bodyPost_ret (results_none rfl _ _ _) rfl ?_
    obtain rfl := Option.some.inj HO.out
    exact ⟨rfl, F1.out, (fun s hs => by cases hs), B1.out⟩
  | some s =>
    have ho := HO.out
    simp only at ho
    obtain ⟨mb, hmb, ho⟩ := Option.bind_eq_some_iff.mp ho
    have HMB := Aside0.mk hmb
    have HOO := Aside0.mk ho
    clear ho hmb HO
    cases mb with
    | true =>
      go_enter Try.func23, Try.ntmps23
      go_wp2_with (first | (go_at_call 35; refine (parse_calls k g A c l d m sm (some s) _ HB.out HF.out HCC.out HPO.out).mono ?_; rintro e w1 ⟨rfl, hf1, hv1, hb1⟩; have F1 := Aside0.mk hf1; have V1 := Aside0.mk (hv1 s rfl); obtain ⟨va, bi, bu, hG, hA, hI, hU, hbi, hbu, hne, hgb, hok⟩ := V1.out; obtain ⟨A1, c1, rfl⟩ := Kd.R_slice hA; have RA := Aside0.mk (Kd.R_reads' hA); have HOK := Aside0.mk hok; have G1 := Aside0.mk hG; have MI1 := Aside0.mk hI; have MU1 := Aside0.mk hU; have q5 : w1.cell? ⟨g, 5, none⟩ = some (.slice A1 s.all.length c1) := (blk_cell hG 5).trans rfl; clear hf1 hv1 hb1 hG hA hI hU hbi hbu hne hgb hok) | (go_at_call 36; refine (kcontains_calls k A1 c1 g w.heap.size (.slice A l.length c) d m sm false s true _ V1.out RA.out.2.2 RA.out.2.1 HMB.out).mono ?_; rintro e w2 ⟨rfl, hb2⟩; clear q5; have B2 := Aside0.mk hb2; have V2 := Aside0.mk (V1.out.below hb2); have q5 : w2.cell? ⟨g, 5, none⟩ = some (.slice A1 s.all.length c1) := (blk_cell (blk_below G1.out hb2) 5).trans rfl; clear hb2))
      refine bodyPost_ret (results_none rfl _ _ _) rfl ?_
      obtain rfl := Option.some.inj HOO.out
      obtain ⟨va3, bi3, bu3, hG3, _⟩ := V1.out.below B2.out
      exact ⟨rfl, F1.out.below B2.out, (fun s hs => by cases hs), va3, _, _, hG3⟩
    | false =>
      have hoo := HOO.out
      rw [if_neg (by decide)] at hoo
      have HLO := Aside0.mk (Option.some.inj hoo)
      clear hoo HOO
      go_enter Try.func23, Try.ntmps23
      go_wp2_with (first | (go_at_call 35; refine (parse_calls k g A c l d m sm (some s) _ HB.out HF.out HCC.out HPO.out).mono ?_; rintro e w1 ⟨rfl, hf1, hv1, hb1⟩; have F1 := Aside0.mk hf1; have V1 := Aside0.mk (hv1 s rfl); obtain ⟨va, bi, bu, hG, hA, hI, hU, hbi, hbu, hne, hgb, hok⟩ := V1.out; obtain ⟨A1, c1, rfl⟩ := Kd.R_slice hA; have RA := Aside0.mk (Kd.R_reads' hA); have HOK := Aside0.mk hok; have G1 := Aside0.mk hG; have MI1 := Aside0.mk hI; have MU1 := Aside0.mk hU; have q5 : w1.cell? ⟨g, 5, none⟩ = some (.slice A1 s.all.length c1) := (blk_cell hG 5).trans rfl; clear hf1 hv1 hb1 hG hA hI hU hbi hbu hne hgb hok) | (go_at_call 36; refine (kcontains_calls k A1 c1 g w.heap.size (.slice A l.length c) d m sm false s false _ V1.out RA.out.2.2 RA.out.2.1 HMB.out).mono ?_; rintro e w2 ⟨rfl, hb2⟩; clear q5; have B2 := Aside0.mk hb2; have V2 := Aside0.mk (V1.out.below hb2); have q5 : w2.cell? ⟨g, 5, none⟩ = some (.slice A1 s.all.length c1) := (blk_cell (blk_below G1.out hb2) 5).trans rfl; clear hb2))
      have C2 := Aside0.mk (Kd.C_below RA.out.2.2 B2.out)
      have G2 := Aside0.mk (blk_below G1.out B2.out)
      clear h ho q5 RA HB
      go_loopw [22] (fun vi wr => ∃ i : Int, vi = .int .i64 i ∧ Aside0 (0 ≤ i ∧ i ≤ s.all.length) ∧ Aside0 (Below w2.heap.size w2 wr) ∧ Aside0 (lookAll s (s.all.drop i.toNat) = lookAll s s.all)) (fun vi _ => s.all.length - (intOf vi).toNat)
      case atStart => exact ⟨0, rfl, ⟨by omega⟩, ⟨Below.refl _ _⟩, ⟨rfl⟩⟩
      case round =>
        obtain ⟨i, rfl, HX, HBW, HRL⟩ := hrel
        obtain ⟨hi0, hi1⟩ := HX.out
        by_cases hlt : i < (s.all.length : Int)
        · obtain ⟨ad, hAd, q0, q1, q2, q3, q4⟩ := at_Kept C2.out i hi0 hlt
          subst hAd
          replace q0 := (HBW.out.cell (World.block_lt_of_cell? w2 _ q0)).trans q0
          replace q1 := (HBW.out.cell (World.block_lt_of_cell? w2 _ q1)).trans q1
          replace q2 := (HBW.out.cell (World.block_lt_of_cell? w2 _ q2)).trans q2
          replace q3 := (HBW.out.cell (World.block_lt_of_cell? w2 _ q3)).trans q3
          replace q4 := (HBW.out.cell (World.block_lt_of_cell? w2 _ q4)).trans q4
          have hlt2 : decide (i < (s.all.length : Int)) = true := decide_eq_true hlt
          have p0 := eq_true hi0
          have p1 := eq_true hlt
          obtain ⟨x, hx⟩ : ∃ x, x = rd_Kept s.all i := ⟨_, rfl⟩
          have hR0 := HRL.out
          have hd := drop_Kept hi0 hlt
          have hmem : x ∈ s.all := List.mem_of_mem_drop (by rw [hd, ← hx]; exact List.mem_cons_self : x ∈ s.all.drop i.toNat)
          rw [hd, lookAll, ← hx] at hR0
          rw [← hx] at q0 q1 q2 q3 q4
          have HXR := Aside0.mk (HOK.out.2.1 x hmem)
          have ew : wrap64 (i + 1) = i + 1 := by have := HOK.out.2.2.1; unfold wrap64; omega
          have EW := Aside0.mk ew
          have LT := Aside0.mk hlt
          have HR0 := Aside0.mk hR0
          clear hmem hd ew hlt hi0 hi1 hx hR0
          by_cases hk : x.f0 = 1
          · have e0 : (x.f0 != 1) = false := bne_eq_false_iff_eq.2 hk
            by_cases hk1 : x.f1 = 1
            · have e1 : (x.f1 == 1) = true := beq_iff_eq.2 hk1
              have HR2 := Aside0.mk (show lookAll s (s.all.drop (i + 1).toNat) = lookAll s s.all by have := HR0.out; rw [if_neg (fun h => h.2 hk1)] at this; exact this)
              clear HR0 hk hk1
              go_wp2_with (first | ((with_reducible refine gate_dst (N := 3) rfl ?_); refine var_event (N := 3) (T := 84) (n := 5) (zc := #[.int .u8 0, .int .u32 0, .string ⟨#[]⟩, .int .u32 0, .string ⟨#[]⟩]) (cs := #[.int .u8 x.f0, .int .u32 x.f1, .string x.f2, .int .u32 x.f3, .string x.f4]) rfl rfl rfl (.tmp 25) rfl rfl ?hr (by kernel_rfl) rfl rfl rfl ?hx ?hN ?_; (case hx => intro p_; rfl); (case hN => intro p_; rfl); (case hr => first | (go_simp; done) | (go_simp; rfl)); intro gx hgx w3 hx3 hb3; have X3 := Aside0.mk hx3; have B3 := Aside0.mk (below_step HBW.out hb3); have y0 : w3.cell? ⟨gx, 0, none⟩ = some (.int .u8 x.f0) := (blk_cell X3.out 0).trans rfl; have y1 : w3.cell? ⟨gx, 1, none⟩ = some (.int .u32 x.f1) := (blk_cell X3.out 1).trans rfl; clear hx3 hb3 hgx q0 q1 q2 q3 q4))
              have hx := HX.out
              have hl := LT.out
              go_roundw
              case rel => exact ⟨i + 1, by rw [EW.out], ⟨by omega⟩, ⟨B3.out⟩, HR2⟩
              case measure =>
                simp [EW.out, intOf]
                omega
            · have e1 : (x.f1 == 1) = false := beq_eq_false_iff_ne.2 hk1
              obtain ⟨n, hn⟩ : ∃ n, n = (s.ino x.f1).getD zI := ⟨_, rfl⟩
              obtain ⟨y, hy⟩ : ∃ y, y = (s.up x.f1).getD (0, 0) := ⟨_, rfl⟩
              have hR := HR0.out
              rw [if_pos ⟨hk, hk1⟩, ← hn, ← hy] at hR
              have HR := Aside0.mk hR
              have HN := Aside0.mk hn
              have HY := Aside0.mk hy
              clear hR hn hy hk hk1 HR0
              go_wp2_with (first | ((with_reducible refine gate_dst (N := 3) rfl ?_); refine var_event (N := 3) (T := 84) (n := 5) (zc := #[.int .u8 0, .int .u32 0, .string ⟨#[]⟩, .int .u32 0, .string ⟨#[]⟩]) (cs := #[.int .u8 x.f0, .int .u32 x.f1, .string x.f2, .int .u32 x.f3, .string x.f4]) rfl rfl rfl (.tmp 25) rfl rfl ?hr (by kernel_rfl) rfl rfl rfl ?hx ?hN ?_; (case hx => intro p_; rfl); (case hN => intro p_; rfl); (case hr => first | (go_simp; done) | (go_simp; rfl)); intro gx hgx w3 hx3 hb3; have X3 := Aside0.mk hx3; have B3 := Aside0.mk (below_step HBW.out hb3); have y0 : w3.cell? ⟨gx, 0, none⟩ = some (.int .u8 x.f0) := (blk_cell X3.out 0).trans rfl; have y1 : w3.cell? ⟨gx, 1, none⟩ = some (.int .u32 x.f1) := (blk_cell X3.out 1).trans rfl; clear hx3 hb3 hgx q0 q1 q2 q3 q4))
              have G3 := Aside0.mk (blk_below G2.out B3.out)
              have V3 := Aside0.mk (V2.out.below B3.out)
              have I3 := Aside0.mk ((MI1.out.below B2.out).below B3.out)
              have U3 := Aside0.mk ((MU1.out.below B2.out).below B3.out)
              refine start_ (n := 10) (S := (fun w' => w'.cell? ⟨g, 6, none⟩ = some (.map (some bi)) ∧ w'.cell? ⟨gx, 1, none⟩ = some (.int .u32 x.f1) ∧ (Instr.lookup 74 (.map (some bi)) (.int .u32 x.f1) false).run Try.prog w' = .ok (.agg #[.int .u8 n.kd, .int .u16 n.md, .int .u32 n.ln, .int .u32 n.sz, .string n.tg]) w')) (ds := [9]) #[false, false, false, false, false, false, false, false, false, false] (by kernel_rfl) rfl rfl ⟨(blk_cell (blk_below G3.out (show Below w3.heap.size w3 w3.drew from below_drew1 (Below.refl _ _))) 6).trans rfl, (blk_cell (blk_below X3.out (show Below w3.heap.size w3 w3.drew from below_drew1 (Below.refl _ _))) 1).trans rfl, (lookN (I3.out.move rfl : MapF Try.prog 25 w3.drew bi _ _) HXR.out HN.out)⟩ (fun hHeld => ?_)
              clear y0 y1
              refine pure_ (i := 0) (N := some 36) (v := ?_) (a' := ?_) #[true, false, false, false, false, false, false, false, false, false] rfl rfl (by kernel_rfl) (fun _ _ _ h => h) (Or.inl ⟨by rfl, ?_⟩) ?_ ?_
              rotate_left
              · intro w'
                go_simp
                with_reducible rfl
              rotate_left
              · simp only [Act.put, List.setIfInBounds_toArray, List.set_cons_zero, List.set_cons_succ, i64_w, i32_w]
                rfl
              refine pure_ (i := 1) (N := some 37) (v := ?_) (a' := ?_) #[true, true, false, false, false, false, false, false, false, false] rfl rfl (by kernel_rfl) (fun _ _ _ h => h) (Or.inl ⟨by rfl, ?_⟩) ?_ ?_
              rotate_left
              · intro w'
                go_simp
                with_reducible rfl
              rotate_left
              · simp only [Act.put, List.setIfInBounds_toArray, List.set_cons_zero, List.set_cons_succ, i64_w, i32_w]
                rfl
              refine pure_ (i := 2) (N := some 38) (v := ?_) (a' := ?_) #[true, true, true, false, false, false, false, false, false, false] rfl rfl (by kernel_rfl) (fun _ _ _ h => h) (Or.inl ⟨by rfl, ?_⟩) ?_ ?_
              rotate_left
              · intro w'
                go_simp
                with_reducible rfl
              rotate_left
              · simp only [Act.put, List.setIfInBounds_toArray, List.set_cons_zero, List.set_cons_succ, i64_w, i32_w]
                rfl
              refine take_ (i := 3) (N := some 39) (v := ?_) (a' := ?_) #[true, true, true, true, false, false, false, false, false, false] rfl rfl (by kernel_rfl) (fun _ _ _ h => h) (Or.inl ⟨by rfl, ?_⟩) hHeld ?_ ?_
              rotate_left
              · rintro w' ⟨s0, s1, s2⟩
                go_simp
                with_reducible rfl
              rotate_left
              · simp only [Act.put, List.setIfInBounds_toArray, List.set_cons_zero, List.set_cons_succ, i64_w, i32_w]
                rfl
              refine pure_ (i := 4) (N := some 40) (v := ?_) (a' := ?_) #[true, true, true, true, true, false, false, false, false, false] rfl rfl (by kernel_rfl) (fun _ _ _ h => h) (Or.inl ⟨by rfl, ?_⟩) ?_ ?_
              rotate_left
              · intro w'
                go_simp
                with_reducible rfl
              rotate_left
              · simp only [Act.put, List.setIfInBounds_toArray, List.set_cons_zero, List.set_cons_succ, i64_w, i32_w]
                rfl
              refine pure_ (i := 5) (N := some 41) (v := ?_) (a' := ?_) #[true, true, true, true, true, true, false, false, false, false] rfl rfl (by kernel_rfl) (fun _ _ _ h => h) (Or.inl ⟨by rfl, ?_⟩) ?_ ?_
              rotate_left
              · intro w'
                go_simp
                with_reducible rfl
              rotate_left
              · simp only [Act.put, List.setIfInBounds_toArray, List.set_cons_zero, List.set_cons_succ, i64_w, i32_w]
                rfl
              refine take_ (i := 6) (N := some 42) (v := ?_) (a' := ?_) #[true, true, true, true, true, true, true, false, false, false] rfl rfl (by kernel_rfl) (fun _ _ _ h => h) (Or.inl ⟨by rfl, ?_⟩) hHeld ?_ ?_
              rotate_left
              · rintro w' ⟨s0, s1, s2⟩
                go_simp
                with_reducible rfl
              rotate_left
              · simp only [Act.put, List.setIfInBounds_toArray, List.set_cons_zero, List.set_cons_succ, i64_w, i32_w]
                rfl
              refine take_ (i := 7) (N := some 43) (v := ?_) (a' := ?_) #[true, true, true, true, true, true, true, true, false, false] rfl rfl (by kernel_rfl) (fun _ _ _ h => h) (Or.inl ⟨by rfl, ?_⟩) hHeld ?_ ?_
              rotate_left
              · rintro w' ⟨s0, s1, s2⟩
                go_simp
                with_reducible rfl
              rotate_left
              · simp only [Act.put, List.setIfInBounds_toArray, List.set_cons_zero, List.set_cons_succ, i64_w, i32_w]
                rfl
              refine one_ (i := 8) (N := some 4) #[true, true, true, true, true, true, true, true, true, false] rfl rfl (by kernel_rfl) (by decide) (fun K hK => ?_)
              refine box_step (N := 4) (cs := #[.int .u8 0, .int .u16 0, .int .u32 0, .int .u32 0, .string ⟨#[]⟩]) (t := 37) (by rfl) rfl (by first | (go_simp; done) | (go_simp; rfl)) ?_
              intro gn hgn w4 hx4 hb4
              have Z4 := Aside0.mk hx4
              have B4 := Aside0.mk (show Below w3.heap.size w3 w4 from (below_drew1 (Below.refl w3.heap.size w3)).trans hb4)
              have GN := Aside0.mk (show w3.heap.size ≤ gn by rw [hgn]; exact Nat.le_refl _)
              clear hx4 hb4 hgn
              refine hK.out _ _ ⟨(blk_cell (blk_below G3.out B4.out) 6).trans rfl, (blk_cell (blk_below X3.out B4.out) 1).trans rfl, (lookN (I3.out.below B4.out) HXR.out HN.out)⟩ (fun hHeld => ?_)
              clear hK K
              refine norm_ (a' := ?_) ?_ ?_
              rotate_left
              · show Act.put _ (some 4) _ = _
                simp only [Act.put, List.setIfInBounds_toArray, List.set_cons_zero, List.set_cons_succ, i64_w, i32_w]
                rfl
              refine last_ (i := 9) (N := none) #[true, true, true, true, true, true, true, true, true, true] rfl rfl (by kernel_rfl) (by decide) (fun K hK => ?_)
              refine var_store_step (cs := #[.int .u8 n.kd, .int .u16 n.md, .int .u32 n.ln, .int .u32 n.sz, .string n.tg]) (n := 5) (by rfl) (.tmp 4) (.tmp 43) rfl rfl rfl rfl (by kernel_rfl) Z4.out rfl rfl rfl ?_
              intro w5 hx5 hb5
              have Z5 := Aside0.mk hx5
              have B5 := Aside0.mk (hb5 _ _ B4.out GN.out)
              refine hK.out _ _ ?_
              clear hK K hx5 hb5 Z4
              refine done_ (by kernel_rfl) ?_
              clear hHeld B4 GN
              have X5 := Aside0.mk (blk_below X3.out B5.out)
              have G5 := Aside0.mk (blk_below G3.out B5.out)
              have U5 := Aside0.mk (U3.out.below B5.out)
              have V5 := Aside0.mk (V3.out.below B5.out)
              have BW := Aside0.mk (below_step B3.out B5.out)
              clear X3 G3 U3 I3 V3 B5 B3
              go_wp2
              refine start_ (n := 27) (S := (fun w' => w'.cell? ⟨g, 7, none⟩ = some (.map (some bu)) ∧ w'.cell? ⟨gx, 1, none⟩ = some (.int .u32 x.f1) ∧ w'.cell? ⟨gn, 2, none⟩ = some (.int .u32 n.ln) ∧ w'.cell? ⟨gn, 0, none⟩ = some (.int .u8 n.kd) ∧ (Instr.lookup 75 (.map (some bu)) (.int .u32 x.f1) false).run Try.prog w' = .ok (.agg #[.int .i64 y.1, .int .u32 y.2]) w')) (ds := []) #[false, false, false, false, false, false, false, false, false, false, false, false, false, false, false, false, false, false, false, false, false, false, false, false, false, false, false] (by kernel_rfl) rfl rfl ⟨(blk_cell (blk_below G5.out (show Below w5.heap.size w5 w5.drew from below_drew1 (Below.refl _ _))) 7).trans rfl, (blk_cell (blk_below X5.out (show Below w5.heap.size w5 w5.drew from below_drew1 (Below.refl _ _))) 1).trans rfl, (blk_cell (blk_below Z5.out (show Below w5.heap.size w5 w5.drew from below_drew1 (Below.refl _ _))) 2).trans rfl, (blk_cell (blk_below Z5.out (show Below w5.heap.size w5 w5.drew from below_drew1 (Below.refl _ _))) 0).trans rfl, (lookW (U5.out.below (show Below w5.heap.size w5 w5.drew from below_drew1 (Below.refl _ _))) HXR.out HY.out)⟩ (fun hHeld => ?_)
              refine pure_ (i := 0) (N := some 44) (v := ?_) (a' := ?_) #[true, false, false, false, false, false, false, false, false, false, false, false, false, false, false, false, false, false, false, false, false, false, false, false, false, false, false] rfl rfl (by kernel_rfl) (fun _ _ _ h => h) (Or.inl ⟨by rfl, ?_⟩) ?_ ?_
              rotate_left
              · intro w'
                go_simp
                with_reducible rfl
              rotate_left
              · simp only [Act.put, List.setIfInBounds_toArray, List.set_cons_zero, List.set_cons_succ, i64_w, i32_w]
                rfl
              refine pure_ (i := 1) (N := some 45) (v := ?_) (a' := ?_) #[true, true, false, false, false, false, false, false, false, false, false, false, false, false, false, false, false, false, false, false, false, false, false, false, false, false, false] rfl rfl (by kernel_rfl) (fun _ _ _ h => h) (Or.inl ⟨by rfl, ?_⟩) ?_ ?_
              rotate_left
              · intro w'
                go_simp
                with_reducible rfl
              rotate_left
              · simp only [Act.put, List.setIfInBounds_toArray, List.set_cons_zero, List.set_cons_succ, i64_w, i32_w]
                rfl
              refine pure_ (i := 2) (N := some 46) (v := ?_) (a' := ?_) #[true, true, true, false, false, false, false, false, false, false, false, false, false, false, false, false, false, false, false, false, false, false, false, false, false, false, false] rfl rfl (by kernel_rfl) (fun _ _ _ h => h) (Or.inl ⟨by rfl, ?_⟩) ?_ ?_
              rotate_left
              · intro w'
                go_simp
                with_reducible rfl
              rotate_left
              · simp only [Act.put, List.setIfInBounds_toArray, List.set_cons_zero, List.set_cons_succ, i64_w, i32_w]
                rfl
              refine take_ (i := 3) (N := some 47) (v := ?_) (a' := ?_) #[true, true, true, true, false, false, false, false, false, false, false, false, false, false, false, false, false, false, false, false, false, false, false, false, false, false, false] rfl rfl (by kernel_rfl) (fun _ _ _ h => h) (Or.inl ⟨by rfl, ?_⟩) hHeld ?_ ?_
              rotate_left
              · rintro w' ⟨s0, s1, s2, s3, s4⟩
                go_simp
                with_reducible rfl
              rotate_left
              · simp only [Act.put, List.setIfInBounds_toArray, List.set_cons_zero, List.set_cons_succ, i64_w, i32_w]
                rfl
              refine pure_ (i := 4) (N := some 48) (v := ?_) (a' := ?_) #[true, true, true, true, true, false, false, false, false, false, false, false, false, false, false, false, false, false, false, false, false, false, false, false, false, false, false] rfl rfl (by kernel_rfl) (fun _ _ _ h => h) (Or.inl ⟨by rfl, ?_⟩) ?_ ?_
              rotate_left
              · intro w'
                go_simp
                with_reducible rfl
              rotate_left
              · simp only [Act.put, List.setIfInBounds_toArray, List.set_cons_zero, List.set_cons_succ, i64_w, i32_w]
                rfl
              refine pure_ (i := 5) (N := some 49) (v := ?_) (a' := ?_) #[true, true, true, true, true, true, false, false, false, false, false, false, false, false, false, false, false, false, false, false, false, false, false, false, false, false, false] rfl rfl (by kernel_rfl) (fun _ _ _ h => h) (Or.inl ⟨by rfl, ?_⟩) ?_ ?_
              rotate_left
              · intro w'
                go_simp
                with_reducible rfl
              rotate_left
              · simp only [Act.put, List.setIfInBounds_toArray, List.set_cons_zero, List.set_cons_succ, i64_w, i32_w]
                rfl
              refine take_ (i := 6) (N := some 50) (v := ?_) (a' := ?_) #[true, true, true, true, true, true, true, false, false, false, false, false, false, false, false, false, false, false, false, false, false, false, false, false, false, false, false] rfl rfl (by kernel_rfl) (fun _ _ _ h => h) (Or.inl ⟨by rfl, ?_⟩) hHeld ?_ ?_
              rotate_left
              · rintro w' ⟨s0, s1, s2, s3, s4⟩
                go_simp
                with_reducible rfl
              rotate_left
              · simp only [Act.put, List.setIfInBounds_toArray, List.set_cons_zero, List.set_cons_succ, i64_w, i32_w]
                rfl
              refine take_ (i := 7) (N := some 51) (v := ?_) (a' := ?_) #[true, true, true, true, true, true, true, true, false, false, false, false, false, false, false, false, false, false, false, false, false, false, false, false, false, false, false] rfl rfl (by kernel_rfl) (fun _ _ _ h => h) (Or.inl ⟨by rfl, ?_⟩) hHeld ?_ ?_
              rotate_left
              · rintro w' ⟨s0, s1, s2, s3, s4⟩
                go_simp
                with_reducible rfl
              rotate_left
              · simp only [Act.put, List.setIfInBounds_toArray, List.set_cons_zero, List.set_cons_succ, i64_w, i32_w]
                rfl
              refine pure_ (i := 8) (N := some 52) (v := ?_) (a' := ?_) #[true, true, true, true, true, true, true, true, true, false, false, false, false, false, false, false, false, false, false, false, false, false, false, false, false, false, false] rfl rfl (by kernel_rfl) (fun _ _ _ h => h) (Or.inl ⟨by rfl, ?_⟩) ?_ ?_
              rotate_left
              · intro w'
                go_simp
                rfl
              rotate_left
              · simp only [Act.put, List.setIfInBounds_toArray, List.set_cons_zero, List.set_cons_succ, i64_w, i32_w]
                rfl
              refine pure_ (i := 9) (N := some 53) (v := ?_) (a' := ?_) #[true, true, true, true, true, true, true, true, true, true, false, false, false, false, false, false, false, false, false, false, false, false, false, false, false, false, false] rfl rfl (by kernel_rfl) (fun _ _ _ h => h) (Or.inl ⟨by rfl, ?_⟩) ?_ ?_
              rotate_left
              · intro w'
                go_simp
                with_reducible rfl
              rotate_left
              · simp only [Act.put, List.setIfInBounds_toArray, List.set_cons_zero, List.set_cons_succ, i64_w, i32_w]
                rfl
              refine pure_ (i := 10) (N := some 54) (v := ?_) (a' := ?_) #[true, true, true, true, true, true, true, true, true, true, true, false, false, false, false, false, false, false, false, false, false, false, false, false, false, false, false] rfl rfl (by kernel_rfl) (fun _ _ _ h => h) (Or.inl ⟨by rfl, ?_⟩) ?_ ?_
              rotate_left
              · intro w'
                go_simp
                with_reducible rfl
              rotate_left
              · simp only [Act.put, List.setIfInBounds_toArray, List.set_cons_zero, List.set_cons_succ, i64_w, i32_w]
                rfl
              refine take_ (i := 11) (N := some 55) (v := ?_) (a' := ?_) #[true, true, true, true, true, true, true, true, true, true, true, true, false, false, false, false, false, false, false, false, false, false, false, false, false, false, false] rfl rfl (by kernel_rfl) (fun _ _ _ h => h) (Or.inl ⟨by rfl, ?_⟩) hHeld ?_ ?_
              rotate_left
              · rintro w' ⟨s0, s1, s2, s3, s4⟩
                go_simp
                with_reducible rfl
              rotate_left
              · simp only [Act.put, List.setIfInBounds_toArray, List.set_cons_zero, List.set_cons_succ, i64_w, i32_w]
                rfl
              refine pure_ (i := 12) (N := some 56) (v := ?_) (a' := ?_) #[true, true, true, true, true, true, true, true, true, true, true, true, true, false, false, false, false, false, false, false, false, false, false, false, false, false, false] rfl rfl (by kernel_rfl) (fun _ _ _ h => h) (Or.inl ⟨by rfl, ?_⟩) ?_ ?_
              rotate_left
              · intro w'
                go_simp
                with_reducible rfl
              rotate_left
              · simp only [Act.put, List.setIfInBounds_toArray, List.set_cons_zero, List.set_cons_succ, i64_w, i32_w]
                rfl
              refine pure_ (i := 13) (N := some 57) (v := ?_) (a' := ?_) #[true, true, true, true, true, true, true, true, true, true, true, true, true, true, false, false, false, false, false, false, false, false, false, false, false, false, false] rfl rfl (by kernel_rfl) (fun _ _ _ h => h) (Or.inl ⟨by rfl, ?_⟩) ?_ ?_
              rotate_left
              · intro w'
                go_simp
                with_reducible rfl
              rotate_left
              · simp only [Act.put, List.setIfInBounds_toArray, List.set_cons_zero, List.set_cons_succ, i64_w, i32_w]
                rfl
              refine pure_ (i := 14) (N := some 58) (v := ?_) (a' := ?_) #[true, true, true, true, true, true, true, true, true, true, true, true, true, true, true, false, false, false, false, false, false, false, false, false, false, false, false] rfl rfl (by kernel_rfl) (fun _ _ _ h => h) (Or.inl ⟨by rfl, ?_⟩) ?_ ?_
              rotate_left
              · intro w'
                go_simp
                with_reducible rfl
              rotate_left
              · simp only [Act.put, List.setIfInBounds_toArray, List.set_cons_zero, List.set_cons_succ, i64_w, i32_w]
                rfl
              generalize hcb : (IntKind.u64.wrap y.1 != IntKind.u64.wrap n.ln) = cb
              cases cb with
              | true =>
                refine pure_ (i := 15) (N := some 59) (v := undef) (a' := ?_) #[true, true, true, true, true, true, true, true, true, true, true, true, true, true, true, true, false, false, false, false, false, false, false, false, false, false, false] rfl rfl (by kernel_rfl) (fun _ _ _ h => h) (Or.inr ⟨by rfl, rfl⟩) ?_ ?_
                rotate_left
                · simp only [Act.put, List.setIfInBounds_toArray, List.set_cons_zero, List.set_cons_succ, i64_w, i32_w]
                  rfl
                refine pure_ (i := 16) (N := some 60) (v := undef) (a' := ?_) #[true, true, true, true, true, true, true, true, true, true, true, true, true, true, true, true, true, false, false, false, false, false, false, false, false, false, false] rfl rfl (by kernel_rfl) (fun _ _ _ h => h) (Or.inr ⟨by rfl, rfl⟩) ?_ ?_
                rotate_left
                · simp only [Act.put, List.setIfInBounds_toArray, List.set_cons_zero, List.set_cons_succ, i64_w, i32_w]
                  rfl
                refine pure_ (i := 17) (N := some 61) (v := undef) (a' := ?_) #[true, true, true, true, true, true, true, true, true, true, true, true, true, true, true, true, true, true, false, false, false, false, false, false, false, false, false] rfl rfl (by kernel_rfl) (fun _ _ _ h => h) (Or.inr ⟨by rfl, rfl⟩) ?_ ?_
                rotate_left
                · simp only [Act.put, List.setIfInBounds_toArray, List.set_cons_zero, List.set_cons_succ, i64_w, i32_w]
                  rfl
                refine pure_ (i := 18) (N := some 62) (v := undef) (a' := ?_) #[true, true, true, true, true, true, true, true, true, true, true, true, true, true, true, true, true, true, true, false, false, false, false, false, false, false, false] rfl rfl (by kernel_rfl) (fun _ _ _ h => h) (Or.inr ⟨by rfl, rfl⟩) ?_ ?_
                rotate_left
                · simp only [Act.put, List.setIfInBounds_toArray, List.set_cons_zero, List.set_cons_succ, i64_w, i32_w]
                  rfl
                refine pure_ (i := 19) (N := some 63) (v := undef) (a' := ?_) #[true, true, true, true, true, true, true, true, true, true, true, true, true, true, true, true, true, true, true, true, false, false, false, false, false, false, false] rfl rfl (by kernel_rfl) (fun _ _ _ h => h) (Or.inr ⟨by rfl, rfl⟩) ?_ ?_
                rotate_left
                · simp only [Act.put, List.setIfInBounds_toArray, List.set_cons_zero, List.set_cons_succ, i64_w, i32_w]
                  rfl
                refine pure_ (i := 20) (N := some 64) (v := undef) (a' := ?_) #[true, true, true, true, true, true, true, true, true, true, true, true, true, true, true, true, true, true, true, true, true, false, false, false, false, false, false] rfl rfl (by kernel_rfl) (fun _ _ _ h => h) (Or.inr ⟨by rfl, rfl⟩) ?_ ?_
                rotate_left
                · simp only [Act.put, List.setIfInBounds_toArray, List.set_cons_zero, List.set_cons_succ, i64_w, i32_w]
                  rfl
                refine pure_ (i := 21) (N := some 65) (v := undef) (a' := ?_) #[true, true, true, true, true, true, true, true, true, true, true, true, true, true, true, true, true, true, true, true, true, true, false, false, false, false, false] rfl rfl (by kernel_rfl) (fun _ _ _ h => h) (Or.inr ⟨by rfl, rfl⟩) ?_ ?_
                rotate_left
                · simp only [Act.put, List.setIfInBounds_toArray, List.set_cons_zero, List.set_cons_succ, i64_w, i32_w]
                  rfl
                refine pure_ (i := 22) (N := some 66) (v := undef) (a' := ?_) #[true, true, true, true, true, true, true, true, true, true, true, true, true, true, true, true, true, true, true, true, true, true, true, false, false, false, false] rfl rfl (by kernel_rfl) (fun _ _ _ h => h) (Or.inr ⟨by rfl, rfl⟩) ?_ ?_
                rotate_left
                · simp only [Act.put, List.setIfInBounds_toArray, List.set_cons_zero, List.set_cons_succ, i64_w, i32_w]
                  rfl
                refine pure_ (i := 23) (N := some 67) (v := undef) (a' := ?_) #[true, true, true, true, true, true, true, true, true, true, true, true, true, true, true, true, true, true, true, true, true, true, true, true, false, false, false] rfl rfl (by kernel_rfl) (fun _ _ _ h => h) (Or.inr ⟨by rfl, rfl⟩) ?_ ?_
                rotate_left
                · simp only [Act.put, List.setIfInBounds_toArray, List.set_cons_zero, List.set_cons_succ, i64_w, i32_w]
                  rfl
                refine pure_ (i := 24) (N := some 68) (v := undef) (a' := ?_) #[true, true, true, true, true, true, true, true, true, true, true, true, true, true, true, true, true, true, true, true, true, true, true, true, true, false, false] rfl rfl (by kernel_rfl) (fun _ _ _ h => h) (Or.inr ⟨by rfl, rfl⟩) ?_ ?_
                rotate_left
                · simp only [Act.put, List.setIfInBounds_toArray, List.set_cons_zero, List.set_cons_succ, i64_w, i32_w]
                  rfl
                refine pure_ (i := 25) (N := some 69) (v := undef) (a' := ?_) #[true, true, true, true, true, true, true, true, true, true, true, true, true, true, true, true, true, true, true, true, true, true, true, true, true, true, false] rfl rfl (by kernel_rfl) (fun _ _ _ h => h) (Or.inr ⟨by rfl, rfl⟩) ?_ ?_
                rotate_left
                · simp only [Act.put, List.setIfInBounds_toArray, List.set_cons_zero, List.set_cons_succ, i64_w, i32_w]
                  rfl
                refine pure_ (i := 26) (N := some 70) (v := ?_) (a' := ?_) #[true, true, true, true, true, true, true, true, true, true, true, true, true, true, true, true, true, true, true, true, true, true, true, true, true, true, true] rfl rfl (by kernel_rfl) (fun _ _ _ h => h) (Or.inl ⟨by rfl, ?_⟩) ?_ ?_
                rotate_left
                · intro w'
                  go_simp
                  with_reducible rfl
                rotate_left
                · simp only [Act.put, List.setIfInBounds_toArray, List.set_cons_zero, List.set_cons_succ, i64_w, i32_w]
                  rfl
                refine done_ (by kernel_rfl) ?_
                clear hHeld
                have h0 : ¬ IntKind.u64.wrap y.1 = IntKind.u64.wrap n.ln := bne_iff_ne.1 hcb
                have hR := HR.out
                rw [if_neg h0] at hR
                have hq := HLO.out
                rw [← hR, if_neg (by decide)] at hq
                obtain rfl := hq
                clear hR h0 hcb
                go_wp2
                refine bodyPost_ret (results_none rfl _ _ _) rfl ?_
                obtain ⟨va9, bi9, bu9, hG9, _⟩ := V5.out.below (show Below w5.heap.size w5 w5.drew from below_drew1 (Below.refl _ _))
                exact ⟨rfl, ((F1.out.below B2.out).below BW.out).below (show Below w5.heap.size w5 w5.drew from below_drew1 (Below.refl _ _)), (fun s hs => by cases hs), va9, _, _, hG9⟩
              | false =>
                have h0 : IntKind.u64.wrap y.1 = IntKind.u64.wrap n.ln := bne_eq_false_iff_eq.1 hcb
                have hR := HR.out
                rw [if_pos h0] at hR
                clear h0 hcb
                refine pure_ (i := 15) (N := some 59) (v := ?_) (a' := ?_) #[true, true, true, true, true, true, true, true, true, true, true, true, true, true, true, true, false, false, false, false, false, false, false, false, false, false, false] rfl rfl (by kernel_rfl) (fun _ _ _ h => h) (Or.inl ⟨by rfl, ?_⟩) ?_ ?_
                rotate_left
                · intro w'
                  go_simp
                  with_reducible rfl
                rotate_left
                · simp only [Act.put, List.setIfInBounds_toArray, List.set_cons_zero, List.set_cons_succ, i64_w, i32_w]
                  rfl
                refine take_ (i := 16) (N := some 60) (v := ?_) (a' := ?_) #[true, true, true, true, true, true, true, true, true, true, true, true, true, true, true, true, true, false, false, false, false, false, false, false, false, false, false] rfl rfl (by kernel_rfl) (fun _ _ _ h => h) (Or.inl ⟨by rfl, ?_⟩) hHeld ?_ ?_
                rotate_left
                · rintro w' ⟨s0, s1, s2, s3, s4⟩
                  go_simp
                  with_reducible rfl
                rotate_left
                · simp only [Act.put, List.setIfInBounds_toArray, List.set_cons_zero, List.set_cons_succ, i64_w, i32_w]
                  rfl
                refine pure_ (i := 17) (N := some 61) (v := ?_) (a' := ?_) #[true, true, true, true, true, true, true, true, true, true, true, true, true, true, true, true, true, true, false, false, false, false, false, false, false, false, false] rfl rfl (by kernel_rfl) (fun _ _ _ h => h) (Or.inl ⟨by rfl, ?_⟩) ?_ ?_
                rotate_left
                · intro w'
                  go_simp
                  with_reducible rfl
                rotate_left
                · simp only [Act.put, List.setIfInBounds_toArray, List.set_cons_zero, List.set_cons_succ, i64_w, i32_w]
                  rfl
                refine pure_ (i := 18) (N := some 62) (v := ?_) (a' := ?_) #[true, true, true, true, true, true, true, true, true, true, true, true, true, true, true, true, true, true, true, false, false, false, false, false, false, false, false] rfl rfl (by kernel_rfl) (fun _ _ _ h => h) (Or.inl ⟨by rfl, ?_⟩) ?_ ?_
                rotate_left
                · intro w'
                  go_simp
                  with_reducible rfl
                rotate_left
                · simp only [Act.put, List.setIfInBounds_toArray, List.set_cons_zero, List.set_cons_succ, i64_w, i32_w]
                  rfl
                generalize hkb : (n.kd == 1) = kb
                cases kb with
                | false =>
                  rw [if_neg (beq_eq_false_iff_ne.1 hkb)] at hR
                  have HR2 := Aside0.mk hR
                  clear hR hkb
                  refine pure_ (i := 19) (N := some 63) (v := undef) (a' := ?_) #[true, true, true, true, true, true, true, true, true, true, true, true, true, true, true, true, true, true, true, true, false, false, false, false, false, false, false] rfl rfl (by kernel_rfl) (fun _ _ _ h => h) (Or.inr ⟨by rfl, rfl⟩) ?_ ?_
                  rotate_left
                  · simp only [Act.put, List.setIfInBounds_toArray, List.set_cons_zero, List.set_cons_succ, i64_w, i32_w]
                    rfl
                  refine pure_ (i := 20) (N := some 64) (v := undef) (a' := ?_) #[true, true, true, true, true, true, true, true, true, true, true, true, true, true, true, true, true, true, true, true, true, false, false, false, false, false, false] rfl rfl (by kernel_rfl) (fun _ _ _ h => h) (Or.inr ⟨by rfl, rfl⟩) ?_ ?_
                  rotate_left
                  · simp only [Act.put, List.setIfInBounds_toArray, List.set_cons_zero, List.set_cons_succ, i64_w, i32_w]
                    rfl
                  refine pure_ (i := 21) (N := some 65) (v := undef) (a' := ?_) #[true, true, true, true, true, true, true, true, true, true, true, true, true, true, true, true, true, true, true, true, true, true, false, false, false, false, false] rfl rfl (by kernel_rfl) (fun _ _ _ h => h) (Or.inr ⟨by rfl, rfl⟩) ?_ ?_
                  rotate_left
                  · simp only [Act.put, List.setIfInBounds_toArray, List.set_cons_zero, List.set_cons_succ, i64_w, i32_w]
                    rfl
                  refine pure_ (i := 22) (N := some 66) (v := undef) (a' := ?_) #[true, true, true, true, true, true, true, true, true, true, true, true, true, true, true, true, true, true, true, true, true, true, true, false, false, false, false] rfl rfl (by kernel_rfl) (fun _ _ _ h => h) (Or.inr ⟨by rfl, rfl⟩) ?_ ?_
                  rotate_left
                  · simp only [Act.put, List.setIfInBounds_toArray, List.set_cons_zero, List.set_cons_succ, i64_w, i32_w]
                    rfl
                  refine pure_ (i := 23) (N := some 67) (v := undef) (a' := ?_) #[true, true, true, true, true, true, true, true, true, true, true, true, true, true, true, true, true, true, true, true, true, true, true, true, false, false, false] rfl rfl (by kernel_rfl) (fun _ _ _ h => h) (Or.inr ⟨by rfl, rfl⟩) ?_ ?_
                  rotate_left
                  · simp only [Act.put, List.setIfInBounds_toArray, List.set_cons_zero, List.set_cons_succ, i64_w, i32_w]
                    rfl
                  refine pure_ (i := 24) (N := some 68) (v := undef) (a' := ?_) #[true, true, true, true, true, true, true, true, true, true, true, true, true, true, true, true, true, true, true, true, true, true, true, true, true, false, false] rfl rfl (by kernel_rfl) (fun _ _ _ h => h) (Or.inr ⟨by rfl, rfl⟩) ?_ ?_
                  rotate_left
                  · simp only [Act.put, List.setIfInBounds_toArray, List.set_cons_zero, List.set_cons_succ, i64_w, i32_w]
                    rfl
                  refine pure_ (i := 25) (N := some 69) (v := ?_) (a' := ?_) #[true, true, true, true, true, true, true, true, true, true, true, true, true, true, true, true, true, true, true, true, true, true, true, true, true, true, false] rfl rfl (by kernel_rfl) (fun _ _ _ h => h) (Or.inl ⟨by rfl, ?_⟩) ?_ ?_
                  rotate_left
                  · intro w'
                    go_simp
                    with_reducible rfl
                  rotate_left
                  · simp only [Act.put, List.setIfInBounds_toArray, List.set_cons_zero, List.set_cons_succ, i64_w, i32_w]
                    rfl
                  refine pure_ (i := 26) (N := some 70) (v := ?_) (a' := ?_) #[true, true, true, true, true, true, true, true, true, true, true, true, true, true, true, true, true, true, true, true, true, true, true, true, true, true, true] rfl rfl (by kernel_rfl) (fun _ _ _ h => h) (Or.inl ⟨by rfl, ?_⟩) ?_ ?_
                  rotate_left
                  · intro w'
                    go_simp
                    with_reducible rfl
                  rotate_left
                  · simp only [Act.put, List.setIfInBounds_toArray, List.set_cons_zero, List.set_cons_succ, i64_w, i32_w]
                    rfl
                  refine done_ (by kernel_rfl) ?_
                  clear hHeld
                  go_wp2
                  have hx := HX.out
                  have hl := LT.out
                  go_roundw
                  case rel => exact ⟨i + 1, by rw [EW.out], ⟨by omega⟩, ⟨below_step BW.out (show Below w5.heap.size w5 w5.drew from below_drew1 (Below.refl _ _))⟩, HR2⟩
                  case measure =>
                    simp [EW.out, intOf]
                    omega
                | true =>
                  rw [if_pos (beq_iff_eq.1 hkb)] at hR
                  have HR1 := Aside0.mk hR
                  clear hR hkb
                  refine pure_ (i := 19) (N := some 63) (v := ?_) (a' := ?_) #[true, true, true, true, true, true, true, true, true, true, true, true, true, true, true, true, true, true, true, true, false, false, false, false, false, false, false] rfl rfl (by kernel_rfl) (fun _ _ _ h => h) (Or.inl ⟨by rfl, ?_⟩) ?_ ?_
                  rotate_left
                  · intro w'
                    go_simp
                    with_reducible rfl
                  rotate_left
                  · simp only [Act.put, List.setIfInBounds_toArray, List.set_cons_zero, List.set_cons_succ, i64_w, i32_w]
                    rfl
                  refine pure_ (i := 20) (N := some 64) (v := ?_) (a' := ?_) #[true, true, true, true, true, true, true, true, true, true, true, true, true, true, true, true, true, true, true, true, true, false, false, false, false, false, false] rfl rfl (by kernel_rfl) (fun _ _ _ h => h) (Or.inl ⟨by rfl, ?_⟩) ?_ ?_
                  rotate_left
                  · intro w'
                    go_simp
                    with_reducible rfl
                  rotate_left
                  · simp only [Act.put, List.setIfInBounds_toArray, List.set_cons_zero, List.set_cons_succ, i64_w, i32_w]
                    rfl
                  refine pure_ (i := 21) (N := some 65) (v := ?_) (a' := ?_) #[true, true, true, true, true, true, true, true, true, true, true, true, true, true, true, true, true, true, true, true, true, true, false, false, false, false, false] rfl rfl (by kernel_rfl) (fun _ _ _ h => h) (Or.inl ⟨by rfl, ?_⟩) ?_ ?_
                  rotate_left
                  · intro w'
                    go_simp
                    with_reducible rfl
                  rotate_left
                  · simp only [Act.put, List.setIfInBounds_toArray, List.set_cons_zero, List.set_cons_succ, i64_w, i32_w]
                    rfl
                  refine take_ (i := 22) (N := some 66) (v := ?_) (a' := ?_) #[true, true, true, true, true, true, true, true, true, true, true, true, true, true, true, true, true, true, true, true, true, true, true, false, false, false, false] rfl rfl (by kernel_rfl) (fun _ _ _ h => h) (Or.inl ⟨by rfl, ?_⟩) hHeld ?_ ?_
                  rotate_left
                  · rintro w' ⟨s0, s1, s2, s3, s4⟩
                    go_simp
                    with_reducible rfl
                  rotate_left
                  · simp only [Act.put, List.setIfInBounds_toArray, List.set_cons_zero, List.set_cons_succ, i64_w, i32_w]
                    rfl
                  refine one_ (i := 23) (N := some 67) #[true, true, true, true, true, true, true, true, true, true, true, true, true, true, true, true, true, true, true, true, true, true, true, true, false, false, false] rfl rfl (by kernel_rfl) (by decide) (fun K hK => ?_)
                  refine goes_ Try.func38 (by kernel_rfl) rfl #[.pointer (some ⟨g, 0, none⟩), .int .u32 x.f1] (by rfl) rfl rfl (by (try simp only [List.map_toArray, List.map_cons, List.map_nil]); first | done | rfl) ?_
                  refine (rooted_calls g w.heap.size (.slice A l.length c) d m sm false s x.f1 _ (V5.out.below (show Below w5.heap.size w5 w5.drew from below_drew1 (Below.refl _ _))) HXR.out).mono ?_
                  rintro e w6 ⟨rfl, hb6⟩
                  have B6 := Aside0.mk (show Below w5.heap.size w5 w6 from below_then (show Below w5.heap.size w5 w5.drew from below_drew1 (Below.refl _ _)) (show Below w5.heap.size w5 w5.drew from below_drew1 (Below.refl _ _)).size hb6)
                  clear hb6
                  refine ⟨_, rfl, ?_⟩
                  refine hK.out _ _ ⟨(blk_cell (blk_below G5.out B6.out) 7).trans rfl, (blk_cell (blk_below X5.out B6.out) 1).trans rfl, (blk_cell (blk_below Z5.out B6.out) 2).trans rfl, (blk_cell (blk_below Z5.out B6.out) 0).trans rfl, (lookW (U5.out.below B6.out) HXR.out HY.out)⟩ (fun hHeld => ?_)
                  clear hK K
                  refine norm_ (a' := ?_) ?_ ?_
                  rotate_left
                  · show Act.put _ (some 67) _ = _
                    simp only [Act.put, List.setIfInBounds_toArray, List.set_cons_zero, List.set_cons_succ, i64_w, i32_w]
                    rfl
                  generalize hrb : rootedL s.up s.all.length x.f1 = rb
                  rw [hrb] at HR1
                  cases rb with
                  | true =>
                    have HR2 := Aside0.mk (show lookAll s (s.all.drop (i + 1).toNat) = lookAll s s.all by have := HR1.out; rw [if_pos rfl] at this; exact this)
                    clear HR1 hrb
                    refine pure_ (i := 24) (N := some 68) (v := ?_) (a' := ?_) #[true, true, true, true, true, true, true, true, true, true, true, true, true, true, true, true, true, true, true, true, true, true, true, true, true, false, false] rfl rfl (by kernel_rfl) (fun _ _ _ h => h) (Or.inl ⟨by rfl, ?_⟩) ?_ ?_
                    rotate_left
                    · intro w'
                      go_simp
                      with_reducible rfl
                    rotate_left
                    · simp only [Act.put, List.setIfInBounds_toArray, List.set_cons_zero, List.set_cons_succ, i64_w, i32_w]
                      rfl
                    refine pure_ (i := 25) (N := some 69) (v := ?_) (a' := ?_) #[true, true, true, true, true, true, true, true, true, true, true, true, true, true, true, true, true, true, true, true, true, true, true, true, true, true, false] rfl rfl (by kernel_rfl) (fun _ _ _ h => h) (Or.inl ⟨by rfl, ?_⟩) ?_ ?_
                    rotate_left
                    · intro w'
                      go_simp
                      with_reducible rfl
                    rotate_left
                    · simp only [Act.put, List.setIfInBounds_toArray, List.set_cons_zero, List.set_cons_succ, i64_w, i32_w]
                      rfl
                    refine pure_ (i := 26) (N := some 70) (v := ?_) (a' := ?_) #[true, true, true, true, true, true, true, true, true, true, true, true, true, true, true, true, true, true, true, true, true, true, true, true, true, true, true] rfl rfl (by kernel_rfl) (fun _ _ _ h => h) (Or.inl ⟨by rfl, ?_⟩) ?_ ?_
                    rotate_left
                    · intro w'
                      go_simp
                      with_reducible rfl
                    rotate_left
                    · simp only [Act.put, List.setIfInBounds_toArray, List.set_cons_zero, List.set_cons_succ, i64_w, i32_w]
                      rfl
                    refine done_ (by kernel_rfl) ?_
                    clear hHeld
                    go_wp2
                    have hx := HX.out
                    have hl := LT.out
                    go_roundw
                    case rel => exact ⟨i + 1, by rw [EW.out], ⟨by omega⟩, ⟨below_step BW.out B6.out⟩, HR2⟩
                    case measure =>
                      simp [EW.out, intOf]
                      omega
                  | false =>
                    have hq := HLO.out
                    have h1 := HR1.out
                    rw [if_neg (by decide)] at h1
                    rw [← h1, if_neg (by decide)] at hq
                    clear h1
                    obtain rfl := hq
                    clear HR1 hrb
                    refine pure_ (i := 24) (N := some 68) (v := ?_) (a' := ?_) #[true, true, true, true, true, true, true, true, true, true, true, true, true, true, true, true, true, true, true, true, true, true, true, true, true, false, false] rfl rfl (by kernel_rfl) (fun _ _ _ h => h) (Or.inl ⟨by rfl, ?_⟩) ?_ ?_
                    rotate_left
                    · intro w'
                      go_simp
                      with_reducible rfl
                    rotate_left
                    · simp only [Act.put, List.setIfInBounds_toArray, List.set_cons_zero, List.set_cons_succ, i64_w, i32_w]
                      rfl
                    refine pure_ (i := 25) (N := some 69) (v := ?_) (a' := ?_) #[true, true, true, true, true, true, true, true, true, true, true, true, true, true, true, true, true, true, true, true, true, true, true, true, true, true, false] rfl rfl (by kernel_rfl) (fun _ _ _ h => h) (Or.inl ⟨by rfl, ?_⟩) ?_ ?_
                    rotate_left
                    · intro w'
                      go_simp
                      with_reducible rfl
                    rotate_left
                    · simp only [Act.put, List.setIfInBounds_toArray, List.set_cons_zero, List.set_cons_succ, i64_w, i32_w]
                      rfl
                    refine pure_ (i := 26) (N := some 70) (v := ?_) (a' := ?_) #[true, true, true, true, true, true, true, true, true, true, true, true, true, true, true, true, true, true, true, true, true, true, true, true, true, true, true] rfl rfl (by kernel_rfl) (fun _ _ _ h => h) (Or.inl ⟨by rfl, ?_⟩) ?_ ?_
                    rotate_left
                    · intro w'
                      go_simp
                      with_reducible rfl
                    rotate_left
                    · simp only [Act.put, List.setIfInBounds_toArray, List.set_cons_zero, List.set_cons_succ, i64_w, i32_w]
                      rfl
                    refine done_ (by kernel_rfl) ?_
                    clear hHeld
                    go_wp2
                    refine bodyPost_ret (results_none rfl _ _ _) rfl ?_
                    obtain ⟨va9, bi9, bu9, hG9, _⟩ := V5.out.below B6.out
                    exact ⟨rfl, ((F1.out.below B2.out).below BW.out).below B6.out, (fun s hs => by cases hs), va9, _, _, hG9⟩
          · have e0 : (x.f0 != 1) = true := bne_iff_ne.2 hk
            have HR2 := Aside0.mk (show lookAll s (s.all.drop (i + 1).toNat) = lookAll s s.all by have := HR0.out; rw [if_neg (fun h => hk h.1)] at this; exact this)
            clear HR0 hk
            go_wp2_with (first | ((with_reducible refine gate_dst (N := 3) rfl ?_); refine var_event (N := 3) (T := 84) (n := 5) (zc := #[.int .u8 0, .int .u32 0, .string ⟨#[]⟩, .int .u32 0, .string ⟨#[]⟩]) (cs := #[.int .u8 x.f0, .int .u32 x.f1, .string x.f2, .int .u32 x.f3, .string x.f4]) rfl rfl rfl (.tmp 25) rfl rfl ?hr (by kernel_rfl) rfl rfl rfl ?hx ?hN ?_; (case hx => intro p_; rfl); (case hN => intro p_; rfl); (case hr => first | (go_simp; done) | (go_simp; rfl)); intro gx hgx w3 hx3 hb3; have X3 := Aside0.mk hx3; have B3 := Aside0.mk (below_step HBW.out hb3); have y0 : w3.cell? ⟨gx, 0, none⟩ = some (.int .u8 x.f0) := (blk_cell X3.out 0).trans rfl; have y1 : w3.cell? ⟨gx, 1, none⟩ = some (.int .u32 x.f1) := (blk_cell X3.out 1).trans rfl; clear hx3 hb3 hgx q0 q1 q2 q3 q4))
            have hx := HX.out
            have hl := LT.out
            go_roundw
            case rel => exact ⟨i + 1, by rw [EW.out], ⟨by omega⟩, ⟨B3.out⟩, HR2⟩
            case measure =>
              simp [EW.out, intOf]
              omega
        · have hge : decide (i < (s.all.length : Int)) = false := decide_eq_false hlt
          have hR := HRL.out
          rw [List.drop_eq_nil_of_le (by omega), lookAll] at hR
          have hq := HLO.out
          rw [← hR, if_pos rfl] at hq
          obtain rfl := hq
          have G9 := Aside0.mk (blk_below G2.out HBW.out)
          have V9 := Aside0.mk (V2.out.below HBW.out)
          have c4 : wr.cell? ⟨g, 4, none⟩ = some (.bool false) := (blk_cell G9.out 4).trans rfl
          have f4 : wr.frozen? ⟨g, 4, none⟩ = false := blk_frozen G9.out 4
          clear hR hlt hi0 hi1
          go_wp2
          go_end0
          have hv := V9.out.setR
          obtain ⟨va9, bi9, bu9, hG9, _⟩ := id hv
          exact ⟨rfl, ((F1.out.below B2.out).below HBW.out).setg 4 _, (fun s' hs => by obtain rfl := Option.some.inj hs; exact hv), va9, _, _, hG9⟩
end Go.Proofs.Ytpnmajblhgnkoaa.Z
end

section
/- dirs: a volume is looked through once (sync.Once of one goroutine); Right. -/
namespace Go.Proofs.Ytpnmajblhgnkoaa.Z
open Go.RowKit Go.Proofs.YtpnmajblhgnkoaaW.PrintWords Go.Proofs.YtpnmajblhgnkoaaW.PrintLast Go.Proofs.YtpnmajblhgnkoaaW.PrintMore
set_option linter.unusedVariables false
set_option linter.unusedSimpArgs false
attribute [local go_sem ↓] Go.wp_at_zero Go.wp_at_succ
theorem storeV (a : Addr) (x : Value) (u : FrameMode) (w : World) (hc : w.cell? a = some x) (hz : w.frozen? a = false) :
    CallsD Try.prog 51 #[.pointer (some a), .bool true] u w fun e u' w' => u' = u ∧ (e = .returned (.tuple #[]) ∧ w' = (w.setCell a (.int .u32 1)).drew) := by
  have hc' : w.drew.cell? a = some x := hc
  have hz' : w.drew.frozen? a = false := hz
  have hst := run_call_store (P := Try.prog) Try.func65 (by kernel_rfl) (by kernel_rfl) (by kernel_rfl) (by kernel_rfl) (k := .u32) (y := 1) hc' hz'
  go_enter_d Try.func51, Try.ntmps51
  go_wp2
  go_region_calls
  all_goals (go_end0; first | exact ⟨rfl, rfl, rfl⟩ | exact ⟨rfl, rfl⟩ | exact rfl)
set_option maxRecDepth 100000 in
set_option maxHeartbeats 1600000 in
theorem unlockV (a : Addr) (u : FrameMode) (w : World) (hc : w.cell? a = some (.int .i32 1)) (hz : w.frozen? a = false) :
    CallsD Try.prog 50 #[.pointer (some a)] u w fun e u' w' => u' = u ∧ (e = .returned (.tuple #[]) ∧ w' = w.setCell a (.int .i32 0)) := by
  have hd := disable
  have he := enable
  have hr := releaseMerge
  have hadd := run_call_add (P := Try.prog) Try.func81 (by kernel_rfl) (by kernel_rfl) (by kernel_rfl) .i32 (by kernel_rfl) (y := -1) (s := 0) hc hz (by simp [go_sem]; rfl)
  have hcv := run_convert_to_unsafe (P := Try.prog) (src := 139) (dst := 143) Try.underlying139 Try.underlying143 (by kernel_rfl) hc
  go_enter_d Try.func50, Try.ntmps50
  go_wp2
  go_end0
  go_wp2
  go_end0
  first | exact ⟨rfl, rfl, rfl⟩ | exact ⟨rfl, rfl⟩ | exact rfl
set_option maxRecDepth 100000 in
set_option maxHeartbeats 1600000 in
theorem lockV (a : Addr) (w : World) (hc : w.cell? a = some (.int .i32 0)) (hz : w.frozen? a = false) :
    Calls Try.prog 49 #[.pointer (some a)] w fun e w' => e = .returned (.tuple #[]) ∧ w' = w.setCell a (.int .i32 1) := by
  have hd := disable
  have he := enable
  have ha := acquire
  have hcas := run_call_cas_hit (P := Try.prog) Try.func76 (by kernel_rfl) (by kernel_rfl) (by kernel_rfl) .i32 (by kernel_rfl) (y := 1) hc hz
  have hc' : (w.setCell a (.int .i32 1)).cell? a = some (.int .i32 1) := World.cell?_setCell_same w a _ hc
  have hcv := run_convert_to_unsafe (P := Try.prog) (src := 139) (dst := 143) Try.underlying139 Try.underlying143 (by kernel_rfl) hc'
  go_enter Try.func49, Try.ntmps49
  go_wp2
  first | go_end0 | (simp only [Exit.inBlock, Exit.then]; refine bodyPost_ret (results_none rfl _ _ _) rfl ?_) | refine bodyPost_ret (results_none rfl _ _ _) rfl ?_
  go_wp2
  go_end0
  exact ⟨rfl, rfl⟩
theorem VolR.setJ {w : World} {g base : Nat} {it : Value} {d m sm d' m' : Int} {r : Bool} {s : VS} (j : Nat) (u : Value) (h : VolR w g base it d m sm r s)
    (he : ∀ va bi bu, (#[it, .int .u32 d, .int .i32 m, .int .u32 sm, .bool r, va, .map (some bi), .map (some bu)] : Array Value).setIfInBounds j u = #[it, .int .u32 d', .int .i32 m', .int .u32 sm, .bool r, va, .map (some bi), .map (some bu)]) : VolR (w.setCell ⟨g, j, none⟩ u) g base it d' m' sm r s := by
  obtain ⟨va, bi, bu, hG, hA, hI, hU, hbi, hbu, hne, hgb, hok⟩ := h
  refine ⟨va, bi, bu, ?_, row_setg hA hgb j _, hI.move (Below.heap_setCell _ ⟨g, j, none⟩ _ bi (by show bi ≠ g; omega)), hU.move (Below.heap_setCell _ ⟨g, j, none⟩ _ bu (by show bu ≠ g; omega)), hbi, hbu, hne, hgb, hok⟩
  have := blk_set hG j u
  rw [he va bi bu] at this
  exact this
theorem VolR.lower {w : World} {g base base' : Nat} {it : Value} {d m sm : Int} {r : Bool} {s : VS} (h : VolR w g base it d m sm r s) (hb : base' ≤ base) (hg : g < base') : VolR w g base' it d m sm r s := by
  obtain ⟨va, bi, bu, hG, hA, hI, hU, hbi, hbu, hne, hgb, hok⟩ := h
  exact ⟨va, bi, bu, hG, Kd.R_lower hA hb, hI, hU, Nat.le_trans hb hbi, Nat.le_trans hb hbu, hne, hg, hok⟩
theorem VolR.drew {w : World} {g base : Nat} {it : Value} {d m sm : Int} {r : Bool} {s : VS} (h : VolR w g base it d m sm r s) : VolR w.drew g base it d m sm r s := h.below (below_drew1 (Below.refl _ _))
set_option maxRecDepth 100000 in
set_option maxHeartbeats 3200000 in
theorem slowV (k : Nat) (g : Nat) (A : Option Addr) (c : Nat) (l : List VIT) (sm : Int) (o : Option VS) (w : World) (hb : w.heap[g]? = some (volO (.slice A l.length c) (.slice none 0 0) (.map none) (.map none) 0 0 sm false)) (hF : ∀ W', KeepBut w W' g none → Kd.C k61 W' A l.length l) (hc : l.length ≤ c) (h : lookF k l = some o) :
    Calls Try.prog 34 #[.pointer (some ⟨g, 1, none⟩), .func (.func 23) #[.pointer (some ⟨g, 0, none⟩)] #[]] w fun e w' => e = .returned (.tuple #[]) ∧ Fr g w w' ∧ (∀ s, o = some s → VolR w' g w.heap.size (.slice A l.length c) 1 0 sm true s) ∧ ∃ va vi vu, w'.heap[g]? = some (volO (.slice A l.length c) va vi vu 1 0 sm o.isSome) := by
  have hnot : ∀ (x : Bool) (w : World), (Op.unary .not (.bool x)).run Try.prog w = .ok (.bool (!x)) w := fun _ _ => rfl
  have HB := Aside0.mk hb
  have HF := Aside0.mk hF
  have HCC := Aside0.mk hc
  have H := Aside0.mk h
  have GS := Aside0.mk (blk_lt hb)
  clear hb hF hc h
  go_enter_defers Try.func34, Try.ntmps34
  go_wp2_with (go_at_call 49; refine (lockV ⟨g, 2, none⟩ _ ((blk_cell HB.out 2).trans rfl) (blk_frozen HB.out 2)).mono ?_; rintro e w1 ⟨rfl, h1⟩; have B1 := Aside0.mk (show w1.heap[g]? = some (volO (.slice A l.length c) (.slice none 0 0) (.map none) (.map none) 0 1 sm false) by rw [h1]; exact blk_set HB.out 2 _); have F1 := Aside0.mk (show Fr g w w1 by rw [h1]; exact (Fr.refl g w).setg 2 _); have S1 := Aside0.mk (show w1.heap.size = w.heap.size by rw [h1]; simp [World.setCell]); clear h1)
  go_wp2_with (first | (go_at_call 33; refine (loads_one ⟨g, 1, none⟩ 0 _ ((blk_cell B1.out 1).trans rfl)).mono ?_; rintro e w' ⟨rfl, rfl⟩) | (go_at_call 23; refine (look_calls k g A c l 0 1 sm o _ B1.out (fun W' hk => HF.out W' (F1.out.1.trans hk (.inl rfl))) HCC.out H.out).mono ?_; rintro e w2 ⟨rfl, hf2, hv2, hb2⟩; have F2 := Aside0.mk (F1.out.trans hf2); have V2 := Aside0.mk (fun s hs => (hv2 s hs).lower (Nat.le_of_eq S1.out.symm) GS.out); have B2 := Aside0.mk hb2; clear hf2 hv2 hb2))
  obtain ⟨va, vi, vu, hB2⟩ := B2.out
  have C2 := Aside0.mk hB2
  clear hB2
  refine leaves_cons (f := 51) (args := #[.pointer (some ⟨g, 1, none⟩), .bool true]) (by simp) (by simp [go_sem]) ?_
  refine (storeV ⟨g, 1, none⟩ (.int .u32 0) .returning _ ((blk_cell C2.out 1).trans rfl) (blk_frozen C2.out 1)).mono ?_
  rintro e u' w3 ⟨rfl, rfl, h3⟩
  have C3 := Aside0.mk (show w3.heap[g]? = some (volO (.slice A l.length c) va vi vu 1 1 sm o.isSome) by rw [h3]; exact blk_drew (blk_set C2.out 1 _))
  have F3 := Aside0.mk (show Fr g w w3 by rw [h3]; exact (F2.out.setg 1 _).below (below_drew1 (Below.refl _ _)))
  have V3 := Aside0.mk (show ∀ s, o = some s → VolR w3 g w.heap.size (.slice A l.length c) 1 1 sm true s from fun s hs => by rw [h3]; exact (VolR.setJ 1 (.int .u32 1) (V2.out s hs) (fun _ _ _ => rfl)).drew)
  clear h3 V2 F2 B2 C2
  refine leaves_cons (f := 50) (args := #[.pointer (some ⟨g, 2, none⟩)]) (by simp [settle]) (by simp [go_sem]) ?_
  refine (unlockV ⟨g, 2, none⟩ _ _ ((blk_cell C3.out 2).trans rfl) (blk_frozen C3.out 2)).mono ?_
  rintro e u' w4 ⟨rfl, rfl, h4⟩
  have P4 : Aside0 (Fr g w w4 ∧ (∀ s, o = some s → VolR w4 g w.heap.size (.slice A l.length c) 1 0 sm true s) ∧ ∃ va vi vu, w4.heap[g]? = some (volO (.slice A l.length c) va vi vu 1 0 sm o.isSome)) :=
    ⟨by rw [h4]; exact F3.out.setg 2 _, fun s hs => by rw [h4]; exact VolR.setJ 2 (.int .i32 0) (V3.out s hs) (fun _ _ _ => rfl), va, vi, vu, by rw [h4]; exact blk_set C3.out 2 _⟩
  clear h4 V3 F3 C3 HB HF HCC H GS B1 F1 S1
  have P5 := P4.out
  generalize hP : (Fr g w w4 ∧ (∀ s, o = some s → VolR w4 g w.heap.size (.slice A l.length c) 1 0 sm true s) ∧ ∃ va vi vu, w4.heap[g]? = some (volO (.slice A l.length c) va vi vu 1 0 sm o.isSome)) = P at P5
  simp [Leaves, settle, results, Try.results34]
  rw [hP]
  exact P5
set_option maxRecDepth 100000 in
set_option maxHeartbeats 1600000 in
theorem right_calls (k : Nat) (g : Nat) (A : Option Addr) (c : Nat) (l : List VIT) (sm : Int) (o : Option VS) (w : World) (hb : w.heap[g]? = some (volO (.slice A l.length c) (.slice none 0 0) (.map none) (.map none) 0 0 sm false)) (hF : ∀ W', KeepBut w W' g none → Kd.C k61 W' A l.length l) (hc : l.length ≤ c) (h : lookF k l = some o) :
    Calls Try.prog 15 #[.pointer (some ⟨g, 0, none⟩)] w fun e w' => e = .returned (.bool o.isSome) ∧ Fr g w w' ∧ (∀ s, o = some s → VolR w' g w.heap.size (.slice A l.length c) 1 0 sm true s) := by
  have hnot : ∀ (x : Bool) (w : World), (Op.unary .not (.bool x)).run Try.prog w = .ok (.bool (!x)) w := fun _ _ => rfl
  have hmf : ∀ (fn : Fn) (first cap : Array Value) (w : World), (Instr.makeFunc fn first cap).run Try.prog w = .ok (.func fn first cap) w := fun _ _ _ _ => rfl
  have HB := Aside0.mk hb
  have HS := Aside0.mk (slowV k g A c l sm o w hb hF hc h)
  clear hb hF hc h
  go_enter Try.func15, Try.ntmps15
  go_wp2_with (first
    | (go_at_call 22; go_in)
    | (go_at_call 33; refine (loads_one ⟨g, 1, none⟩ 0 _ ((blk_cell HB.out 1).trans rfl)).mono ?_; rintro e w' ⟨rfl, rfl⟩)
    | (go_at_call 34; refine HS.out.mono ?_; rintro e w1 ⟨rfl, hf1, hv1, hb1⟩; have F1 := Aside0.mk hf1; have V1 := Aside0.mk hv1; obtain ⟨va, vi, vu, hg1⟩ := hb1; have q4 : w1.cell? ⟨g, 4, none⟩ = some (.bool o.isSome) := (blk_cell hg1 4).trans rfl; clear hf1 hv1 hg1))
  go_end0
  go_wp2
  go_ret
  exact ⟨rfl, F1.out, V1.out⟩
end Go.Proofs.Ytpnmajblhgnkoaa.Z
end

section
-- Printed by a program of this session (mp.py) out of the translation.
namespace Go.Proofs.Ytpnmajblhgnkoaa.Z
open Go.RowKit Go.Proofs.YtpnmajblhgnkoaaW.PrintWords Go.Proofs.YtpnmajblhgnkoaaW.PrintLast Go.Proofs.YtpnmajblhgnkoaaW.PrintMore
attribute [local go_sem] max2_int min2_int max_two min_two max_three min_three max_four min_four   -- for this text's walks alone
set_option linter.unusedVariables false
set_option linter.unusedSimpArgs false

/-! ### cmp_isNaN_string: function 84 -/
def cmp_isNaN_string.f (a0 : ByteArray) : Option (Bool) := some (a0.toList != a0.toList)
set_option maxHeartbeats 8000000 in
set_option maxRecDepth 100000 in
theorem cmp_isNaN_string.calls (a0 : ByteArray) (r : Bool) (w : World) (h : cmp_isNaN_string.f a0 = some r) :
    Calls Try.prog 84 #[.string a0] w fun e w' => e = .returned (.bool r) ∧ Drawn0 w w' := by
  have H : (some (a0.toList != a0.toList)) = some r := h
  clear h
  obtain rfl := Option.some.inj H
  go_enter Try.func84, Try.ntmps84
  go_wp2
  go_ret
  exact ⟨by first | rfl | (simp; done) | (simp [*]; done), by repeat (first | exact Drawn0.refl _ | apply Drawn0.step)⟩

end Go.Proofs.Ytpnmajblhgnkoaa.Z
end

section
-- Printed by a program of this session (mp.py) out of the translation.
namespace Go.Proofs.Ytpnmajblhgnkoaa.Z
open Go.RowKit Go.Proofs.YtpnmajblhgnkoaaW.PrintWords Go.Proofs.YtpnmajblhgnkoaaW.PrintLast Go.Proofs.YtpnmajblhgnkoaaW.PrintMore
attribute [local go_sem] max2_int min2_int max_two min_two max_three min_three max_four min_four   -- for this text's walks alone
set_option linter.unusedVariables false
set_option linter.unusedSimpArgs false

/-! ### cmp_Compare_string: function 72 -/
def cmp_Compare_string.f (a0 : ByteArray) (a1 : ByteArray) : Option (Int) := (cmp_isNaN_string.f a0).bind fun t139 => ((cmp_isNaN_string.f a1).bind fun t140 => (if t139 = true then (if t140 = true then (some 0) else (some (-1))) else (if t140 = true then (some 1) else (if (Op.bytesLess a0.toList a1.toList) = true then (some (-1)) else (if (Op.bytesLess a1.toList a0.toList) = true then (some 1) else (some 0))))))
set_option maxHeartbeats 8000000 in
set_option maxRecDepth 100000 in
theorem cmp_Compare_string.calls (a0 : ByteArray) (a1 : ByteArray) (r : Int) (w : World) (h : cmp_Compare_string.f a0 a1 = some r) :
    Calls Try.prog 72 #[.string a0, .string a1] w fun e w' => e = .returned (.int .i64 r) ∧ Drawn0 w w' := by
  have H : ((cmp_isNaN_string.f a0).bind fun t139 => ((cmp_isNaN_string.f a1).bind fun t140 => (if t139 = true then (if t140 = true then (some 0) else (some (-1))) else (if t140 = true then (some 1) else (if (Op.bytesLess a0.toList a1.toList) = true then (some (-1)) else (if (Op.bytesLess a1.toList a0.toList) = true then (some 1) else (some 0))))))) = some r := h
  clear h
  replace H := Option.bind_eq_some_iff.mp H
  obtain ⟨t139, A30, H⟩ := H
  replace H : ((cmp_isNaN_string.f a1).bind fun t140 => (if t139 = true then (if t140 = true then (some 0) else (some (-1))) else (if t140 = true then (some 1) else (if (Op.bytesLess a0.toList a1.toList) = true then (some (-1)) else (if (Op.bytesLess a1.toList a0.toList) = true then (some 1) else (some 0)))))) = some r := H
  have A3 := Aside0.mk A30
  clear A30
  replace H := Option.bind_eq_some_iff.mp H
  obtain ⟨t140, A40, H⟩ := H
  replace H : (if t139 = true then (if t140 = true then (some 0) else (some (-1))) else (if t140 = true then (some 1) else (if (Op.bytesLess a0.toList a1.toList) = true then (some (-1)) else (if (Op.bytesLess a1.toList a0.toList) = true then (some 1) else (some 0))))) = some r := H
  have A4 := Aside0.mk A40
  clear A40
  by_cases c5 : t139 = true
  · subst c5
    have H1 : (if t140 = true then (some 0) else (some (-1))) = some r := by rw [if_pos rfl] at H; exact H
    clear H
    have H := H1
    clear H1
    by_cases c6 : t140 = true
    · subst c6
      have H1 : (some 0) = some r := by rw [if_pos rfl] at H; exact H
      clear H
      have H := H1
      clear H1
      obtain rfl := Option.some.inj H
      go_enter Try.func72, Try.ntmps72
      go_wp2_with (first | ((with_reducible refine gate_callee (f := 84) rfl ?_); refine gl_ (some 8) Try.func84 #[.string a0] ?_; (with_reducible refine (cmp_isNaN_string.calls a0 true _ A3.out).mono ?_); rintro e w' ⟨rfl, ⟨nd, rfl⟩⟩; refine ⟨_, rfl, ?_⟩) | ((with_reducible refine gate_callee (f := 84) rfl ?_); refine gl_ (some 10) Try.func84 #[.string a1] ?_; (with_reducible refine (cmp_isNaN_string.calls a1 true _ A4.out).mono ?_); rintro e w' ⟨rfl, ⟨nd, rfl⟩⟩; refine ⟨_, rfl, ?_⟩))
      go_ret
      exact ⟨by first | rfl | (simp; done) | (simp [*]; done), by repeat (first | exact Drawn0.refl _ | apply Drawn0.step)⟩
    replace c6 := Bool.eq_false_iff.mpr c6
    subst c6
    have H1 : (some (-1)) = some r := by rw [if_neg (show ¬ (false = true) by decide)] at H; exact H
    clear H
    have H := H1
    clear H1
    obtain rfl := Option.some.inj H
    go_enter Try.func72, Try.ntmps72
    go_wp2_with (first | ((with_reducible refine gate_callee (f := 84) rfl ?_); refine gl_ (some 8) Try.func84 #[.string a0] ?_; (with_reducible refine (cmp_isNaN_string.calls a0 true _ A3.out).mono ?_); rintro e w' ⟨rfl, ⟨nd, rfl⟩⟩; refine ⟨_, rfl, ?_⟩) | ((with_reducible refine gate_callee (f := 84) rfl ?_); refine gl_ (some 10) Try.func84 #[.string a1] ?_; (with_reducible refine (cmp_isNaN_string.calls a1 false _ A4.out).mono ?_); rintro e w' ⟨rfl, ⟨nd, rfl⟩⟩; refine ⟨_, rfl, ?_⟩))
    go_ret
    exact ⟨by first | rfl | (simp; done) | (simp [*]; done), by repeat (first | exact Drawn0.refl _ | apply Drawn0.step)⟩
  replace c5 := Bool.eq_false_iff.mpr c5
  subst c5
  have H1 : (if t140 = true then (some 1) else (if (Op.bytesLess a0.toList a1.toList) = true then (some (-1)) else (if (Op.bytesLess a1.toList a0.toList) = true then (some 1) else (some 0)))) = some r := by rw [if_neg (show ¬ (false = true) by decide)] at H; exact H
  clear H
  have H := H1
  clear H1
  by_cases c7 : t140 = true
  · subst c7
    have H1 : (some 1) = some r := by rw [if_pos rfl] at H; exact H
    clear H
    have H := H1
    clear H1
    obtain rfl := Option.some.inj H
    go_enter Try.func72, Try.ntmps72
    go_wp2_with (first | ((with_reducible refine gate_callee (f := 84) rfl ?_); refine gl_ (some 8) Try.func84 #[.string a0] ?_; (with_reducible refine (cmp_isNaN_string.calls a0 false _ A3.out).mono ?_); rintro e w' ⟨rfl, ⟨nd, rfl⟩⟩; refine ⟨_, rfl, ?_⟩) | ((with_reducible refine gate_callee (f := 84) rfl ?_); refine gl_ (some 10) Try.func84 #[.string a1] ?_; (with_reducible refine (cmp_isNaN_string.calls a1 true _ A4.out).mono ?_); rintro e w' ⟨rfl, ⟨nd, rfl⟩⟩; refine ⟨_, rfl, ?_⟩))
    go_ret
    exact ⟨by first | rfl | (simp; done) | (simp [*]; done), by repeat (first | exact Drawn0.refl _ | apply Drawn0.step)⟩
  replace c7 := Bool.eq_false_iff.mpr c7
  subst c7
  have H1 : (if (Op.bytesLess a0.toList a1.toList) = true then (some (-1)) else (if (Op.bytesLess a1.toList a0.toList) = true then (some 1) else (some 0))) = some r := by rw [if_neg (show ¬ (false = true) by decide)] at H; exact H
  clear H
  have H := H1
  clear H1
  by_cases c8 : (Op.bytesLess a0.toList a1.toList) = true
  · rw [if_pos c8] at H
    have c8b0 : (Op.bytesLess a0.toList a1.toList) = true := c8
    clear c8
    obtain rfl := Option.some.inj H
    go_enter Try.func72, Try.ntmps72
    go_wp2_with (first | ((with_reducible refine gate_callee (f := 84) rfl ?_); refine gl_ (some 8) Try.func84 #[.string a0] ?_; (with_reducible refine (cmp_isNaN_string.calls a0 false _ A3.out).mono ?_); rintro e w' ⟨rfl, ⟨nd, rfl⟩⟩; refine ⟨_, rfl, ?_⟩) | ((with_reducible refine gate_callee (f := 84) rfl ?_); refine gl_ (some 10) Try.func84 #[.string a1] ?_; (with_reducible refine (cmp_isNaN_string.calls a1 false _ A4.out).mono ?_); rintro e w' ⟨rfl, ⟨nd, rfl⟩⟩; refine ⟨_, rfl, ?_⟩))
    go_ret
    exact ⟨by first | rfl | (simp; done) | (simp [*]; done), by repeat (first | exact Drawn0.refl _ | apply Drawn0.step)⟩
  rw [if_neg c8] at H
  have c8b0 : (Op.bytesLess a0.toList a1.toList) = false := by simpa using c8
  clear c8
  by_cases c9 : (Op.bytesLess a1.toList a0.toList) = true
  · rw [if_pos c9] at H
    have c9b0 : (Op.bytesLess a1.toList a0.toList) = true := c9
    clear c9
    obtain rfl := Option.some.inj H
    go_enter Try.func72, Try.ntmps72
    go_wp2_with (first | ((with_reducible refine gate_callee (f := 84) rfl ?_); refine gl_ (some 8) Try.func84 #[.string a0] ?_; (with_reducible refine (cmp_isNaN_string.calls a0 false _ A3.out).mono ?_); rintro e w' ⟨rfl, ⟨nd, rfl⟩⟩; refine ⟨_, rfl, ?_⟩) | ((with_reducible refine gate_callee (f := 84) rfl ?_); refine gl_ (some 10) Try.func84 #[.string a1] ?_; (with_reducible refine (cmp_isNaN_string.calls a1 false _ A4.out).mono ?_); rintro e w' ⟨rfl, ⟨nd, rfl⟩⟩; refine ⟨_, rfl, ?_⟩))
    go_ret
    exact ⟨by first | rfl | (simp; done) | (simp [*]; done), by repeat (first | exact Drawn0.refl _ | apply Drawn0.step)⟩
  rw [if_neg c9] at H
  have c9b0 : (Op.bytesLess a1.toList a0.toList) = false := by simpa using c9
  clear c9
  obtain rfl := Option.some.inj H
  go_enter Try.func72, Try.ntmps72
  go_wp2_with (first | ((with_reducible refine gate_callee (f := 84) rfl ?_); refine gl_ (some 8) Try.func84 #[.string a0] ?_; (with_reducible refine (cmp_isNaN_string.calls a0 false _ A3.out).mono ?_); rintro e w' ⟨rfl, ⟨nd, rfl⟩⟩; refine ⟨_, rfl, ?_⟩) | ((with_reducible refine gate_callee (f := 84) rfl ?_); refine gl_ (some 10) Try.func84 #[.string a1] ?_; (with_reducible refine (cmp_isNaN_string.calls a1 false _ A4.out).mono ?_); rintro e w' ⟨rfl, ⟨nd, rfl⟩⟩; refine ⟨_, rfl, ?_⟩))
  go_ret
  exact ⟨by first | rfl | (simp; done) | (simp [*]; done), by repeat (first | exact Drawn0.refl _ | apply Drawn0.step)⟩

end Go.Proofs.Ytpnmajblhgnkoaa.Z
end

section
-- Printed by a program of this session (mp.py) out of the translation.
namespace Go.Proofs.Ytpnmajblhgnkoaa.Z
open Go.RowKit Go.Proofs.YtpnmajblhgnkoaaW.PrintWords Go.Proofs.YtpnmajblhgnkoaaW.PrintLast Go.Proofs.YtpnmajblhgnkoaaW.PrintMore
attribute [local go_sem] max2_int min2_int max_two min_two max_three min_three max_four min_four   -- for this text's walks alone
set_option linter.unusedVariables false
set_option linter.unusedSimpArgs false

/-! ### item_place_1: function 71 -/
def item_place_1.f (a0_0 : ByteArray) (a0_1 : ByteArray) (a1 : ByteArray) : Option (Int) := (cmp_Compare_string.f a0_0 a1).bind fun t142 => (some t142)
set_option maxHeartbeats 8000000 in
set_option maxRecDepth 100000 in
theorem item_place_1.calls (a0_0 : ByteArray) (a0_1 : ByteArray) (a1 : ByteArray) (r : Int) (w : World) (h : item_place_1.f a0_0 a0_1 a1 = some r) :
    Calls Try.prog 71 #[.agg #[.string a0_0, .string a0_1], .string a1] w fun e w' => e = .returned (.int .i64 r) ∧ Below w.heap.size w w' := by
  have hu61 := Try.underlying61
  have HB := Aside0.mk (Below.refl w.heap.size w)
  have H : ((cmp_Compare_string.f a0_0 a1).bind fun t142 => (some t142)) = some r := h
  clear h
  replace H := Option.bind_eq_some_iff.mp H
  obtain ⟨t142, A30, H⟩ := H
  replace H : (some t142) = some r := H
  have A3 := Aside0.mk A30
  clear A30
  obtain rfl := Option.some.inj H
  go_enter Try.func71, Try.ntmps71
  go_wp2_with (first | ((with_reducible refine gate_dst (N := 2) rfl ?_); refine bx_ (N := 2) (cs := #[.string a0_0, .string a0_1]) (t := 61) ?_; intro gb141 hg w4 hbox hb; have BK141 := Aside0.mk (hbox); have GW141 := ge_ hg; have GE141 := ge_ hg; replace HB := hb_ hb; clear hb hbox hg; obtain ⟨hcz5_0, hcz5_1⟩ := cl2_ BK141; obtain ⟨hfz5_0, hfz5_1⟩ := fz2_ BK141) | ((with_reducible refine gate_callee (f := 72) rfl ?_); refine gl_ (some 8) Try.func72 #[.string a0_0, .string a1] ?_; (with_reducible refine (cmp_Compare_string.calls a0_0 a1 t142 _ A3.out).mono ?_); rintro e w' ⟨rfl, ⟨nd, rfl⟩⟩; refine ⟨_, rfl, ?_⟩))
  go_ret
  exact ⟨by first | rfl | (simp [errW_none, errW_some] <;> rfl) | (simp [*, errW_none, errW_some] <;> rfl), bel_⟩

end Go.Proofs.Ytpnmajblhgnkoaa.Z
end

section
-- Printed by a program of this session (mp.py) out of the translation.
namespace Go.Proofs.Ytpnmajblhgnkoaa.Z
open Go.RowKit Go.Proofs.YtpnmajblhgnkoaaW.PrintWords Go.Proofs.YtpnmajblhgnkoaaW.PrintLast Go.Proofs.YtpnmajblhgnkoaaW.PrintMore
attribute [local go_sem] max2_int min2_int max_two min_two max_three min_three max_four min_four   -- for this text's walks alone
set_option linter.unusedVariables false
set_option linter.unusedSimpArgs false

/-! ### slices_BinarySearchFunc_api_Item_api_Item_string_fn71: function 70 -/
def slices_BinarySearchFunc_api_Item_api_Item_string_fn71.l0 : Nat → List (S61) → ByteArray → Int → Int → Int → Option (Int × Bool)
  | 0, _, _, _, _, _ => none
  | k + 1, x0, x1, x8, x9, x10 => if x9 < x10 then (if 0 ≤ (wrap64 ((IntKind.u64.wrap (wrap64 (x9 + x10))) / 2)) then (if (wrap64 ((IntKind.u64.wrap (wrap64 (x9 + x10))) / 2)) < (x0.length : Int) then ((item_place_1.f ((rd_T61 x0 (wrap64 ((IntKind.u64.wrap (wrap64 (x9 + x10))) / 2))).f0) ((rd_T61 x0 (wrap64 ((IntKind.u64.wrap (wrap64 (x9 + x10))) / 2))).f1) x1).bind fun t144 => (if t144 < 0 then (slices_BinarySearchFunc_api_Item_api_Item_string_fn71.l0 k x0 x1 x8 (wrap64 ((wrap64 ((IntKind.u64.wrap (wrap64 (x9 + x10))) / 2)) + 1)) x10) else (slices_BinarySearchFunc_api_Item_api_Item_string_fn71.l0 k x0 x1 x8 x9 (wrap64 ((IntKind.u64.wrap (wrap64 (x9 + x10))) / 2))))) else (none)) else (none)) else (if x9 < x8 then (if 0 ≤ x9 then (if x9 < (x0.length : Int) then ((item_place_1.f ((rd_T61 x0 x9).f0) ((rd_T61 x0 x9).f1) x1).bind fun t146 => (some (x9, (t146 == 0)))) else (none)) else (none)) else (some (x9, false)))
def slices_BinarySearchFunc_api_Item_api_Item_string_fn71.f (k : Nat) (l0 : List (S61)) (a1 : ByteArray)  : Option (Int × Bool) := slices_BinarySearchFunc_api_Item_api_Item_string_fn71.l0 k l0 a1 (l0.length : Int) 0 (l0.length : Int)
theorem slices_BinarySearchFunc_api_Item_api_Item_string_fn71.mono_l : ∀ k, (∀ y0 y1 y2 y3 y4, LeO (slices_BinarySearchFunc_api_Item_api_Item_string_fn71.l0 k y0 y1 y2 y3 y4) (slices_BinarySearchFunc_api_Item_api_Item_string_fn71.l0 (k + 1) y0 y1 y2 y3 y4))
  | 0 => fun _ _ _ _ _ r h => by simp [slices_BinarySearchFunc_api_Item_api_Item_string_fn71.l0] at h
  | k + 1 => by
    have ih0 := slices_BinarySearchFunc_api_Item_api_Item_string_fn71.mono_l k
    · intro y0 y1 y2 y3 y4
      unfold slices_BinarySearchFunc_api_Item_api_Item_string_fn71.l0
      repeat' first
      | (with_reducible exact ih0 _ _ _ _ _)
      | (with_reducible exact LeO.refl _)
      | (with_reducible exact LeO.none _)
      | (with_reducible refine LeO.ite ?_ ?_)
      | (with_reducible refine LeO.bind ?_ (fun _ => ?_))
      | exact ih0 _ _ _ _ _
      | exact LeO.none _
      | refine LeO.ite ?_ ?_
      | refine LeO.bind ?_ (fun _ => ?_)
theorem slices_BinarySearchFunc_api_Item_api_Item_string_fn71.mono : ∀ a0 a1 k, LeO (slices_BinarySearchFunc_api_Item_api_Item_string_fn71.f k a0 a1) (slices_BinarySearchFunc_api_Item_api_Item_string_fn71.f (k + 1) a0 a1) := by
  intro a0 a1 k
  have ih0 := slices_BinarySearchFunc_api_Item_api_Item_string_fn71.mono_l k
  unfold slices_BinarySearchFunc_api_Item_api_Item_string_fn71.f
  repeat' first
      | (with_reducible exact ih0 _ _ _ _ _)
      | (with_reducible exact LeO.refl _)
      | (with_reducible exact LeO.none _)
      | (with_reducible refine LeO.ite ?_ ?_)
      | (with_reducible refine LeO.bind ?_ (fun _ => ?_))
      | exact ih0 _ _ _ _ _
      | exact LeO.none _
      | refine LeO.ite ?_ ?_
      | refine LeO.bind ?_ (fun _ => ?_)
set_option maxHeartbeats 8000000 in
set_option maxRecDepth 100000 in
theorem slices_BinarySearchFunc_api_Item_api_Item_string_fn71.calls (k : Nat) (A0 : Option Addr) (c0 : Nat) (l0 : List (S61)) (a1 : ByteArray)  (r1 : Int) (r2 : Bool) (w : World) (hr0 : Kd.C k61 w A0 l0.length l0) (hc0 : l0.length ≤ c0) (h : slices_BinarySearchFunc_api_Item_api_Item_string_fn71.f k l0 a1 = some (r1, r2)) :
    Calls Try.prog 70 #[.slice A0 l0.length c0, .string a1, .func (.func 71) #[] #[]] w fun e w' => e = .returned (.tuple #[.int .i64 r1, .bool r2]) ∧ Below w.heap.size w w' := by
  have hu61 := Try.underlying61
  have HR0 := Aside0.mk hr0
  have HC0 := Aside0.mk hc0
  clear hr0 hc0
  have HB := Aside0.mk (Below.refl w.heap.size w)
  have H : (slices_BinarySearchFunc_api_Item_api_Item_string_fn71.l0 k l0 a1 (l0.length : Int) 0 (l0.length : Int)) = some (r1, r2) := h
  clear h
  have H' := Aside0.mk H
  clear H
  go_enter Try.func70, Try.ntmps70
  go_wp2
  go_loopg [9, 10] k (fun kq v9 v10 w' => ∃ (x9_1 : Int) (x10_1 : Int), v9 = .int .i64 x9_1 ∧ v10 = .int .i64 x10_1 ∧ Aside0 (slices_BinarySearchFunc_api_Item_api_Item_string_fn71.l0 kq l0 a1 (l0.length : Int) x9_1 x10_1 = some (r1, r2)) ∧ Aside0 (kq ≤ k) ∧ Aside0 (Below w.heap.size w w'))
  case atStart => exact ⟨(0), ((l0.length : Int)), (by first | rfl | (simp; done) | (simp [*]; done)), (by first | rfl | (simp; done) | (simp [*]; done)), H', ⟨Nat.le_refl _⟩, ⟨bel_⟩⟩
  case round =>
    clear H'
    try clear p2
    obtain ⟨x9_1, x10_1, rfl, rfl, HA, HK1, HB⟩ := hrel
    cases gk with
    | zero => exact absurd HA.out (by simp [slices_BinarySearchFunc_api_Item_api_Item_string_fn71.l0])
    | succ k1 =>
      have H := HA.out
      clear HA
      simp only [slices_BinarySearchFunc_api_Item_api_Item_string_fn71.l0] at H
      by_cases c4 : x9_1 < x10_1
      · rw [if_pos c4] at H
        have c4b0 : decide (x9_1 < x10_1) = true := decide_eq_true c4
        clear c4
        obtain ⟨ji5, hji5⟩ : ∃ j_ : Int, (wrap64 ((IntKind.u64.wrap (wrap64 (x9_1 + x10_1))) / 2)) = j_ := ⟨_, rfl⟩
        replace H : (if 0 ≤ (ji5) then (if (ji5) < (l0.length : Int) then ((item_place_1.f ((rd_T61 l0 (ji5)).f0) ((rd_T61 l0 (ji5)).f1) a1).bind fun t144 => (if t144 < 0 then (slices_BinarySearchFunc_api_Item_api_Item_string_fn71.l0 k1 l0 a1 (l0.length : Int) (wrap64 ((ji5) + 1)) x10_1) else (slices_BinarySearchFunc_api_Item_api_Item_string_fn71.l0 k1 l0 a1 (l0.length : Int) x9_1 ji5))) else (none)) else (none)) = some (r1, r2) := by first | (rw [hji5] at H; exact H) | (simp only [hji5] at H ⊢; exact H)
        have hji5w : (IntKind.i64.wrap ((IntKind.u64.wrap (wrap64 (x9_1 + x10_1))) / 2)) = ji5 := (i64_w _).trans hji5
        by_cases c6 : 0 ≤ (ji5)
        · rw [if_pos c6] at H
          have c6b0 : decide (0 ≤ (ji5)) = true := decide_eq_true c6
          clear c6
          by_cases c7 : (ji5) < (l0.length : Int)
          · rw [if_pos c7] at H
            have c7b0 : decide ((ji5) < (l0.length : Int)) = true := decide_eq_true c7
            clear c7
            replace H := Option.bind_eq_some_iff.mp H
            obtain ⟨t144, A80, H⟩ := H
            replace H : (if t144 < 0 then (slices_BinarySearchFunc_api_Item_api_Item_string_fn71.l0 k1 l0 a1 (l0.length : Int) (wrap64 ((ji5) + 1)) x10_1) else (slices_BinarySearchFunc_api_Item_api_Item_string_fn71.l0 k1 l0 a1 (l0.length : Int) x9_1 ji5)) = some (r1, r2) := H
            have A8 := Aside0.mk A80
            clear A80
            by_cases c9 : t144 < 0
            · rw [if_pos c9] at H
              have c9b0 : decide (t144 < 0) = true := decide_eq_true c9
              clear c9
              have H' := Aside0.mk H
              clear H
              have p143 : 0 ≤ ((ji5) : Int) := of_decide_eq_true (by first | (with_reducible assumption) | assumption)
              have q143 : (ji5) < (l0.length : Int) := of_decide_eq_true (by first | (with_reducible assumption) | assumption)
              obtain ⟨ad143, e143, hx143_0, hx143_1⟩ := at_T61 HR0.out (ji5) p143 q143
              cases e143
              replace hx143_0 := (HB.out.cell (World.block_lt_of_cell? w _ hx143_0)).trans hx143_0
              replace hx143_1 := (HB.out.cell (World.block_lt_of_cell? w _ hx143_1)).trans hx143_1
              replace p143 := eq_true p143
              replace q143 := eq_true q143
              go_wp2_with (first | ((with_reducible refine gate_dyn rfl ?_); refine goesD_ (some 30) rfl rfl Try.func71 (by kernel_rfl) rfl #[.agg #[.string ((rd_T61 l0 (ji5)).f0), .string ((rd_T61 l0 (ji5)).f1)], .string a1] rfl rfl (by (try simp only [List.map_toArray, List.map_cons, List.map_nil]); first | done | (simp only [hji5]; rfl) | rfl | (simp only [List.length_drop, List.length_take]; rfl)) ?_; (with_reducible refine (item_place_1.calls ((rd_T61 l0 (ji5)).f0) ((rd_T61 l0 (ji5)).f1) a1 t144 _ A8.out).mono ?_); rintro e w10 ⟨rfl, hb⟩; refine ⟨_, rfl, ?_⟩; replace HB := hb_ hb; (try clear hb); (try clear hb2); (try clear hk); (try clear hi)))
              go_roundg k1
              case measure => have := HK1.out; omega
              case rel => exact ⟨(wrap64 ((ji5) + 1)), (x10_1), (by first | rfl | (simp; done) | (simp only [← hji5] <;> (first | rfl | simp)) | (simp [*]; done)), (by first | rfl | (simp; done) | (simp [*]; done)), H', ⟨by have := HK1.out; omega⟩, ⟨bel_⟩⟩
            rw [if_neg c9] at H
            have c9b0 : decide (t144 < 0) = false := decide_eq_false c9
            clear c9
            have H' := Aside0.mk H
            clear H
            have p143 : 0 ≤ ((ji5) : Int) := of_decide_eq_true (by first | (with_reducible assumption) | assumption)
            have q143 : (ji5) < (l0.length : Int) := of_decide_eq_true (by first | (with_reducible assumption) | assumption)
            obtain ⟨ad143, e143, hx143_0, hx143_1⟩ := at_T61 HR0.out (ji5) p143 q143
            cases e143
            replace hx143_0 := (HB.out.cell (World.block_lt_of_cell? w _ hx143_0)).trans hx143_0
            replace hx143_1 := (HB.out.cell (World.block_lt_of_cell? w _ hx143_1)).trans hx143_1
            replace p143 := eq_true p143
            replace q143 := eq_true q143
            go_wp2_with (first | ((with_reducible refine gate_dyn rfl ?_); refine goesD_ (some 30) rfl rfl Try.func71 (by kernel_rfl) rfl #[.agg #[.string ((rd_T61 l0 (ji5)).f0), .string ((rd_T61 l0 (ji5)).f1)], .string a1] rfl rfl (by (try simp only [List.map_toArray, List.map_cons, List.map_nil]); first | done | (simp only [hji5]; rfl) | rfl | (simp only [List.length_drop, List.length_take]; rfl)) ?_; (with_reducible refine (item_place_1.calls ((rd_T61 l0 (ji5)).f0) ((rd_T61 l0 (ji5)).f1) a1 t144 _ A8.out).mono ?_); rintro e w11 ⟨rfl, hb⟩; refine ⟨_, rfl, ?_⟩; replace HB := hb_ hb; (try clear hb); (try clear hb2); (try clear hk); (try clear hi)))
            go_roundg k1
            case measure => have := HK1.out; omega
            case rel => exact ⟨(x9_1), (ji5), (by first | rfl | (simp; done) | (simp [*]; done)), (by first | rfl | (simp; done) | (simp only [← hji5] <;> (first | rfl | simp)) | (simp [*]; done)), H', ⟨by have := HK1.out; omega⟩, ⟨bel_⟩⟩
          rw [if_neg c7] at H
          exact absurd H (by simp)
        rw [if_neg c6] at H
        exact absurd H (by simp)
      rw [if_neg c4] at H
      have c4b0 : decide (x9_1 < x10_1) = false := decide_eq_false c4
      clear c4
      by_cases c12 : x9_1 < (l0.length : Int)
      · rw [if_pos c12] at H
        have c12b0 : decide (x9_1 < (l0.length : Int)) = true := decide_eq_true c12
        clear c12
        by_cases c13 : 0 ≤ x9_1
        · rw [if_pos c13] at H
          have c13b0 : decide (0 ≤ x9_1) = true := decide_eq_true c13
          clear c13
          by_cases c14 : x9_1 < (l0.length : Int)
          · rw [if_pos c14] at H
            have c14b0 : decide (x9_1 < (l0.length : Int)) = true := decide_eq_true c14
            clear c14
            replace H := Option.bind_eq_some_iff.mp H
            obtain ⟨t146, A150, H⟩ := H
            replace H : (some (x9_1, (t146 == 0))) = some (r1, r2) := H
            have A15 := Aside0.mk A150
            clear A150
            simp only [Option.some.injEq, Prod.mk.injEq] at H
            obtain ⟨rfl, rfl⟩ := H
            have p145 : 0 ≤ (x9_1 : Int) := of_decide_eq_true (by first | (with_reducible assumption) | assumption)
            have q145 : x9_1 < (l0.length : Int) := of_decide_eq_true (by first | (with_reducible assumption) | assumption)
            obtain ⟨ad145, e145, hx145_0, hx145_1⟩ := at_T61 HR0.out x9_1 p145 q145
            cases e145
            replace hx145_0 := (HB.out.cell (World.block_lt_of_cell? w _ hx145_0)).trans hx145_0
            replace hx145_1 := (HB.out.cell (World.block_lt_of_cell? w _ hx145_1)).trans hx145_1
            replace p145 := eq_true p145
            replace q145 := eq_true q145
            go_wp2_with (first | (go_at_call 71; (with_reducible refine (item_place_1.calls ((rd_T61 l0 x9_1).f0) ((rd_T61 l0 x9_1).f1) a1 t146 _ A15.out).mono ?_); rintro e w16 ⟨rfl, hb⟩; replace HB := hb_ hb; (try clear hb); (try clear hb2); (try clear hk); (try clear hi)))
            go_ret2
            exact ⟨by first | rfl | (simp [errW_none, errW_some] <;> rfl) | (simp [*, errW_none, errW_some] <;> rfl), bel_⟩
          rw [if_neg c14] at H
          exact absurd H (by simp)
        rw [if_neg c13] at H
        exact absurd H (by simp)
      rw [if_neg c12] at H
      have c12b0 : decide (x9_1 < (l0.length : Int)) = false := decide_eq_false c12
      clear c12
      simp only [Option.some.injEq, Prod.mk.injEq] at H
      obtain ⟨rfl, rfl⟩ := H
      go_wp2
      go_ret2
      exact ⟨by first | rfl | (simp [errW_none, errW_some] <;> rfl) | (simp [*, errW_none, errW_some] <;> rfl), bel_⟩

end Go.Proofs.Ytpnmajblhgnkoaa.Z
end

section
-- Printed by a program of this session (mp.py) out of the translation.
namespace Go.Proofs.Ytpnmajblhgnkoaa.Z
open Go.RowKit Go.Proofs.YtpnmajblhgnkoaaW.PrintWords Go.Proofs.YtpnmajblhgnkoaaW.PrintLast Go.Proofs.YtpnmajblhgnkoaaW.PrintMore
attribute [local go_sem] max2_int min2_int max_two min_two max_three min_three max_four min_four   -- for this text's walks alone
set_option linter.unusedVariables false
set_option linter.unusedSimpArgs false

/-! ### item_place: function 57 -/
def item_place.f (k : Nat) (l0 : List (S61)) (a1 : ByteArray) : Option (Int × Bool) := (slices_BinarySearchFunc_api_Item_api_Item_string_fn71.f k l0 a1).bind fun bt147 => (some (bt147.1, bt147.2))
theorem item_place.mono : ∀ a0 a1 k, LeO (item_place.f k a0 a1) (item_place.f (k + 1) a0 a1) := by
  intro a0 a1 k
  unfold item_place.f
  repeat' first
      | (with_reducible exact slices_BinarySearchFunc_api_Item_api_Item_string_fn71.mono _ _ _)
      | (with_reducible exact LeO.refl _)
      | (with_reducible exact LeO.none _)
      | (with_reducible refine LeO.ite ?_ ?_)
      | (with_reducible refine LeO.bind ?_ (fun _ => ?_))
      | exact slices_BinarySearchFunc_api_Item_api_Item_string_fn71.mono _ _ _
      | exact LeO.none _
      | refine LeO.ite ?_ ?_
      | refine LeO.bind ?_ (fun _ => ?_)
set_option maxHeartbeats 8000000 in
set_option maxRecDepth 100000 in
theorem item_place.calls (k : Nat) (A0 : Option Addr) (c0 : Nat) (l0 : List (S61)) (a1 : ByteArray) (r1 : Int) (r2 : Bool) (w : World) (hr0 : Kd.C k61 w A0 l0.length l0) (hc0 : l0.length ≤ c0) (h : item_place.f k l0 a1 = some (r1, r2)) :
    Calls Try.prog 57 #[.slice A0 l0.length c0, .string a1] w fun e w' => e = .returned (.tuple #[.int .i64 r1, .bool r2]) ∧ Below w.heap.size w w' := by
  have HR0 := Aside0.mk hr0
  have HC0 := Aside0.mk hc0
  clear hr0 hc0
  have HB := Aside0.mk (Below.refl w.heap.size w)
  have H : ((slices_BinarySearchFunc_api_Item_api_Item_string_fn71.f k l0 a1).bind fun bt147 => (some (bt147.1, bt147.2))) = some (r1, r2) := h
  clear h
  replace H := Option.bind_eq_some_iff.mp H
  obtain ⟨⟨t147, t148⟩, A30, H⟩ := H
  replace H : (some (t147, t148)) = some (r1, r2) := H
  have A3 := Aside0.mk A30
  clear A30
  simp only [Option.some.injEq, Prod.mk.injEq] at H
  obtain ⟨rfl, rfl⟩ := H
  go_enter Try.func57, Try.ntmps57
  go_wp2_with (first | ((with_reducible refine gate_callee (f := 70) rfl ?_); refine gl_ (some 8) Try.func70 #[.slice A0 l0.length c0, .string a1, .func (.func 71) #[] #[]] ?_; (with_reducible refine (slices_BinarySearchFunc_api_Item_api_Item_string_fn71.calls k _ _ l0 a1 t147 t148 _ ?side1 ?side2 A3.out).mono ?_); (case side1 => repeat (first | exact HR0.out | (with_reducible refine Kd.C_alloc ?_ _) | (with_reducible refine Kd.C_drewN ?_ _) | (with_reducible refine Kd.C_drew ?_))); (case side2 => exact HC0.out); rintro e w4 ⟨rfl, hb⟩; refine ⟨_, rfl, ?_⟩; replace HB := hb_ hb; (try clear hb); (try clear hb2); (try clear hk); (try clear hi)))
  go_ret2
  exact ⟨by first | rfl | (simp [errW_none, errW_some] <;> rfl) | (simp [*, errW_none, errW_some] <;> rfl), bel_⟩

end Go.Proofs.Ytpnmajblhgnkoaa.Z
end

section
-- Printed by a program of this session (mp.py) out of the translation.
namespace Go.Proofs.Ytpnmajblhgnkoaa.Z
open Go.RowKit Go.Proofs.YtpnmajblhgnkoaaW.PrintWords Go.Proofs.YtpnmajblhgnkoaaW.PrintLast Go.Proofs.YtpnmajblhgnkoaaW.PrintMore
attribute [local go_sem] max2_int min2_int max_two min_two max_three min_three max_four min_four   -- for this text's walks alone
set_option linter.unusedVariables false
set_option linter.unusedSimpArgs false

/-! ### item_Get: function 39 -/
def item_Get.f (k : Nat) (l0 : List (S61)) (a1 : ByteArray) : Option (ByteArray × Int) := (item_Check.f k l0).bind fun t149 => (if t149 = 0 then ((item_place.f k l0 a1).bind fun bt150 => (if bt150.2 = true then (if 0 ≤ bt150.1 then (if bt150.1 < (l0.length : Int) then (some ((rd_T61 l0 bt150.1).f1, 0)) else (none)) else (none)) else (some ((⟨#[]⟩ : ByteArray), 5)))) else (some ((⟨#[]⟩ : ByteArray), t149)))
theorem item_Get.mono : ∀ a0 a1 k, LeO (item_Get.f k a0 a1) (item_Get.f (k + 1) a0 a1) := by
  intro a0 a1 k
  unfold item_Get.f
  repeat' first
      | (with_reducible exact item_Check.mono _ _)
      | (with_reducible exact item_place.mono _ _ _)
      | (with_reducible exact LeO.refl _)
      | (with_reducible exact LeO.none _)
      | (with_reducible refine LeO.ite ?_ ?_)
      | (with_reducible refine LeO.bind ?_ (fun _ => ?_))
      | exact item_Check.mono _ _
      | exact item_place.mono _ _ _
      | exact LeO.none _
      | refine LeO.ite ?_ ?_
      | refine LeO.bind ?_ (fun _ => ?_)
set_option maxHeartbeats 8000000 in
set_option maxRecDepth 100000 in
theorem item_Get.calls (k : Nat) (A0 : Option Addr) (c0 : Nat) (l0 : List (S61)) (a1 : ByteArray) (r1 : ByteArray) (r2 : Int) (w : World) (hr0 : Kd.C k61 w A0 l0.length l0) (hc0 : l0.length ≤ c0) (h : item_Get.f k l0 a1 = some (r1, r2)) :
    Calls Try.prog 39 #[.slice A0 l0.length c0, .string a1] w fun e w' => e = .returned (.tuple #[.string r1, .int .i64 r2]) ∧ Below w.heap.size w w' := by
  have HR0 := Aside0.mk hr0
  have HC0 := Aside0.mk hc0
  clear hr0 hc0
  have HB := Aside0.mk (Below.refl w.heap.size w)
  have H : ((item_Check.f k l0).bind fun t149 => (if t149 = 0 then ((item_place.f k l0 a1).bind fun bt150 => (if bt150.2 = true then (if 0 ≤ bt150.1 then (if bt150.1 < (l0.length : Int) then (some ((rd_T61 l0 bt150.1).f1, 0)) else (none)) else (none)) else (some ((⟨#[]⟩ : ByteArray), 5)))) else (some ((⟨#[]⟩ : ByteArray), t149)))) = some (r1, r2) := h
  clear h
  replace H := Option.bind_eq_some_iff.mp H
  obtain ⟨t149, A30, H⟩ := H
  replace H : (if t149 = 0 then ((item_place.f k l0 a1).bind fun bt150 => (if bt150.2 = true then (if 0 ≤ bt150.1 then (if bt150.1 < (l0.length : Int) then (some ((rd_T61 l0 bt150.1).f1, 0)) else (none)) else (none)) else (some ((⟨#[]⟩ : ByteArray), 5)))) else (some ((⟨#[]⟩ : ByteArray), t149))) = some (r1, r2) := H
  have A3 := Aside0.mk A30
  clear A30
  by_cases c4 : t149 = 0
  · rw [if_pos c4] at H
    have c4b0 : (t149 == 0) = true := beq_iff_eq.mpr c4
    have c4b1 : (t149 != 0) = false := bne_eq_false_iff_eq.mpr c4
    clear c4
    replace H := Option.bind_eq_some_iff.mp H
    obtain ⟨⟨t150, t151⟩, A50, H⟩ := H
    replace H : (if t151 = true then (if 0 ≤ t150 then (if t150 < (l0.length : Int) then (some ((rd_T61 l0 t150).f1, 0)) else (none)) else (none)) else (some ((⟨#[]⟩ : ByteArray), 5))) = some (r1, r2) := H
    have A5 := Aside0.mk A50
    clear A50
    by_cases c6 : t151 = true
    · subst c6
      have H1 : (if 0 ≤ t150 then (if t150 < (l0.length : Int) then (some ((rd_T61 l0 t150).f1, 0)) else (none)) else (none)) = some (r1, r2) := by rw [if_pos rfl] at H; exact H
      clear H
      have H := H1
      clear H1
      by_cases c7 : 0 ≤ t150
      · rw [if_pos c7] at H
        have c7b0 : decide (0 ≤ t150) = true := decide_eq_true c7
        clear c7
        by_cases c8 : t150 < (l0.length : Int)
        · rw [if_pos c8] at H
          have c8b0 : decide (t150 < (l0.length : Int)) = true := decide_eq_true c8
          clear c8
          simp only [Option.some.injEq, Prod.mk.injEq] at H
          obtain ⟨rfl, rfl⟩ := H
          go_enter Try.func39, Try.ntmps39
          go_wp2_with (first | ((with_reducible refine gate_callee (f := 54) rfl ?_); refine gl_ (some 10) Try.func54 #[.slice A0 l0.length c0] ?_; (with_reducible refine (item_Check.calls k _ _ l0 t149 _ ?side1 ?side2 A3.out).mono ?_); (case side1 => repeat (first | exact HR0.out | (with_reducible refine Kd.C_alloc ?_ _) | (with_reducible refine Kd.C_drewN ?_ _) | (with_reducible refine Kd.C_drew ?_))); (case side2 => exact HC0.out); rintro e w9 ⟨rfl, hb⟩; refine ⟨_, rfl, ?_⟩; replace HB := hb_ hb; (try clear hb); (try clear hb2); (try clear hk); (try clear hi)) | ((with_reducible refine gate_callee (f := 57) rfl ?_); refine gl_ (some 17) Try.func57 #[.slice A0 l0.length c0, .string a1] ?_; (with_reducible refine (item_place.calls k _ _ l0 a1 t150 true _ ?side1 ?side2 A5.out).mono ?_); (case side1 => exact cb_ HR0); (case side2 => exact HC0.out); rintro e w10 ⟨rfl, hb⟩; refine ⟨_, rfl, ?_⟩; replace HB := hb_ hb; (try clear hb); (try clear hb2); (try clear hk); (try clear hi); have p152 : 0 ≤ (t150 : Int) := of_decide_eq_true (by first | (with_reducible assumption) | assumption); have q152 : t150 < (l0.length : Int) := of_decide_eq_true (by first | (with_reducible assumption) | assumption); obtain ⟨ad152, e152, hx152_0, hx152_1⟩ := at_T61 HR0.out t150 p152 q152; cases e152; replace hx152_0 := (HB.out.cell (World.block_lt_of_cell? w _ hx152_0)).trans hx152_0; replace hx152_1 := (HB.out.cell (World.block_lt_of_cell? w _ hx152_1)).trans hx152_1; replace p152 := eq_true p152; replace q152 := eq_true q152))
          go_ret2
          exact ⟨by first | rfl | (simp [errW_none, errW_some] <;> rfl) | (simp [*, errW_none, errW_some] <;> rfl), bel_⟩
        rw [if_neg c8] at H
        exact absurd H (by simp)
      rw [if_neg c7] at H
      exact absurd H (by simp)
    replace c6 := Bool.eq_false_iff.mpr c6
    subst c6
    have H1 : (some ((⟨#[]⟩ : ByteArray), 5)) = some (r1, r2) := by rw [if_neg (show ¬ (false = true) by decide)] at H; exact H
    clear H
    have H := H1
    clear H1
    simp only [Option.some.injEq, Prod.mk.injEq] at H
    obtain ⟨rfl, rfl⟩ := H
    go_enter Try.func39, Try.ntmps39
    go_wp2_with (first | ((with_reducible refine gate_callee (f := 54) rfl ?_); refine gl_ (some 10) Try.func54 #[.slice A0 l0.length c0] ?_; (with_reducible refine (item_Check.calls k _ _ l0 t149 _ ?side1 ?side2 A3.out).mono ?_); (case side1 => repeat (first | exact HR0.out | (with_reducible refine Kd.C_alloc ?_ _) | (with_reducible refine Kd.C_drewN ?_ _) | (with_reducible refine Kd.C_drew ?_))); (case side2 => exact HC0.out); rintro e w11 ⟨rfl, hb⟩; refine ⟨_, rfl, ?_⟩; replace HB := hb_ hb; (try clear hb); (try clear hb2); (try clear hk); (try clear hi)) | ((with_reducible refine gate_callee (f := 57) rfl ?_); refine gl_ (some 17) Try.func57 #[.slice A0 l0.length c0, .string a1] ?_; (with_reducible refine (item_place.calls k _ _ l0 a1 t150 false _ ?side1 ?side2 A5.out).mono ?_); (case side1 => exact cb_ HR0); (case side2 => exact HC0.out); rintro e w12 ⟨rfl, hb⟩; refine ⟨_, rfl, ?_⟩; replace HB := hb_ hb; (try clear hb); (try clear hb2); (try clear hk); (try clear hi)))
    go_ret2
    exact ⟨by first | rfl | (simp [errW_none, errW_some] <;> rfl) | (simp [*, errW_none, errW_some] <;> rfl), bel_⟩
  rw [if_neg c4] at H
  have c4b0 : (t149 == 0) = false := beq_eq_false_iff_ne.mpr c4
  have c4b1 : (t149 != 0) = true := bne_iff_ne.mpr c4
  simp only [Option.some.injEq, Prod.mk.injEq] at H
  obtain ⟨rfl, rfl⟩ := H
  go_enter Try.func39, Try.ntmps39
  go_wp2_with (first | ((with_reducible refine gate_callee (f := 54) rfl ?_); refine gl_ (some 10) Try.func54 #[.slice A0 l0.length c0] ?_; (with_reducible refine (item_Check.calls k _ _ l0 t149 _ ?side1 ?side2 A3.out).mono ?_); (case side1 => repeat (first | exact HR0.out | (with_reducible refine Kd.C_alloc ?_ _) | (with_reducible refine Kd.C_drewN ?_ _) | (with_reducible refine Kd.C_drew ?_))); (case side2 => exact HC0.out); rintro e w13 ⟨rfl, hb⟩; refine ⟨_, rfl, ?_⟩; replace HB := hb_ hb; (try clear hb); (try clear hb2); (try clear hk); (try clear hi)))
  go_ret2
  exact ⟨by first | rfl | (simp [errW_none, errW_some] <;> rfl) | (simp [*, errW_none, errW_some] <;> rfl), bel_⟩

end Go.Proofs.Ytpnmajblhgnkoaa.Z
end

section
/- dirs: Inode, Entry, Next (printed by genask.py). -/
namespace Go.Proofs.Ytpnmajblhgnkoaa.Z
open Go.RowKit Go.Proofs.YtpnmajblhgnkoaaW.PrintWords Go.Proofs.YtpnmajblhgnkoaaW.PrintLast Go.Proofs.YtpnmajblhgnkoaaW.PrintMore
set_option linter.unusedVariables false
set_option linter.unusedSimpArgs false
attribute [local go_sem ↓] Go.wp_at_zero Go.wp_at_succ
abbrev VolOf (w : World) (g base : Nat) (A : Option Addr) (c : Nat) (l : List VIT) (sm : Int) (s : VS) : Prop := VolR w g base (.slice A l.length c) 1 0 sm true s
set_option maxRecDepth 100000 in
set_option maxHeartbeats 3200000 in
theorem inode_calls (g base : Nat) (it : Value) (d m sm : Int) (r : Bool) (s : VS) (i : Int) (n : INd) (b : Bool) (w : World) (hV : VolR w g base it d m sm r s) (hi : 0 ≤ i ∧ i < 4294967296) (hn : n = (s.ino i).getD zI) (hb : b = (s.ino i).isSome) :
    Calls Try.prog 17 #[.pointer (some ⟨g, 0, none⟩), .int .u32 i] w fun e w' => e = .returned (.tuple #[.agg #[.int .u8 n.kd, .int .u16 n.md, .int .u32 n.ln, .int .u32 n.sz, .string n.tg], .bool b]) ∧ Below w.heap.size w w' := by
  obtain ⟨va, bi, bu, hG, hA, hI, _⟩ := hV
  have GB := Aside0.mk hG
  have MI := Aside0.mk hI
  have HI := Aside0.mk hi
  have HN := Aside0.mk hn
  have HB := Aside0.mk hb
  clear hG hA hI hi hn hb
  go_enter Try.func17, Try.ntmps17
  go_wp2_with (first
    | ((with_reducible refine gate_dst (N := 4) rfl ?_); refine box_event ?hg (N := 4) ?hd (cs := #[.int .u8 0, .int .u16 0, .int .u32 0, .int .u32 0, .string ⟨#[]⟩]) (t := 37) ?hr ?_; (case hd => rfl); (case hg => rfl); (case hr => first | (go_simp; done) | (go_simp; rfl)); intro gr hgr w1 hx hb; have R1 := Aside0.mk hx; have B1 := Aside0.mk hb; have GR := Aside0.mk (show w.heap.size ≤ gr by rw [hgr]; exact Nat.le_refl _); have q6 : w1.cell? ⟨g, 6, none⟩ = some (.map (some bi)) := (blk_cell (blk_below GB.out hb) 6).trans rfl; have lk := lookB (MI.out.below hb) HI.out HN.out HB.out; clear hx hb hgr)
    | ((with_reducible refine gate_dst (N := 6) rfl ?_); refine var_event (N := 6) (T := 37) (n := 5) (zc := #[.int .u8 0, .int .u16 0, .int .u32 0, .int .u32 0, .string ⟨#[]⟩]) (cs := #[.int .u8 n.kd, .int .u16 n.md, .int .u32 n.ln, .int .u32 n.sz, .string n.tg]) rfl rfl rfl (.tmp 15) rfl rfl ?hr (by kernel_rfl) rfl rfl rfl ?hx ?hN ?_; (case hx => intro p_; rfl); (case hN => intro p_; rfl); (case hr => first | (go_simp; done) | (go_simp; rfl)); intro gn hgn w2 hx hb; have N2 := Aside0.mk hx; have R2 := Aside0.mk (blk_below R1.out hb); have B2 := Aside0.mk (below_step B1.out hb); clear q6 lk; have n0 : w2.cell? ⟨gn, 0, none⟩ = some (.int .u8 n.kd) := (blk_cell N2.out 0).trans rfl; have n1 : w2.cell? ⟨gn, 1, none⟩ = some (.int .u16 n.md) := (blk_cell N2.out 1).trans rfl; have n2 : w2.cell? ⟨gn, 2, none⟩ = some (.int .u32 n.ln) := (blk_cell N2.out 2).trans rfl; have n3 : w2.cell? ⟨gn, 3, none⟩ = some (.int .u32 n.sz) := (blk_cell N2.out 3).trans rfl; have n4 : w2.cell? ⟨gn, 4, none⟩ = some (.string n.tg) := (blk_cell N2.out 4).trans rfl; have r0 : w2.cell? ⟨gr, 0, none⟩ = some (.int .u8 0) := (blk_cell R2.out 0).trans rfl; have r1 : w2.cell? ⟨gr, 1, none⟩ = some (.int .u16 0) := (blk_cell R2.out 1).trans rfl; have r2 : w2.cell? ⟨gr, 2, none⟩ = some (.int .u32 0) := (blk_cell R2.out 2).trans rfl; have r3 : w2.cell? ⟨gr, 3, none⟩ = some (.int .u32 0) := (blk_cell R2.out 3).trans rfl; have r4 : w2.cell? ⟨gr, 4, none⟩ = some (.string ⟨#[]⟩) := (blk_cell R2.out 4).trans rfl; have f0 : w2.frozen? ⟨gr, 0, none⟩ = false := blk_frozen R2.out 0; have f1 : w2.frozen? ⟨gr, 1, none⟩ = false := blk_frozen R2.out 1; have f2 : w2.frozen? ⟨gr, 2, none⟩ = false := blk_frozen R2.out 2; have f3 : w2.frozen? ⟨gr, 3, none⟩ = false := blk_frozen R2.out 3; have f4 : w2.frozen? ⟨gr, 4, none⟩ = false := blk_frozen R2.out 4; clear hx hb hgn))
  obtain ⟨hR9, hB9⟩ := lay5 (.int .u8 n.kd) (.int .u16 n.md) (.int .u32 n.ln) (.int .u32 n.sz) (.string n.tg) R2.out B2.out GR.out
  refine bodyPost_ret (results_ct rfl _ _ gr 37 #[.int .u8 n.kd, .int .u16 n.md, .int .u32 n.ln, .int .u32 n.sz, .string n.tg] (0, 0) _ rfl hR9 Try.underlying37 rfl (by kernel_rfl)) rfl ?_
  exact ⟨rfl, hB9⟩
def entryF (k : Nat) (l : List VIT) (i : Int) (nm : ByteArray) : Option Int := (inode_Key.f k 2 i nm 0).bind fun q => if q.2 = 0 then (item_Get.f k l q.1).bind fun r => dirs_number.f k r.1 else some 0
theorem entryF.mono (l : List VIT) (i : Int) (nm : ByteArray) : ∀ k, LeO (entryF k l i nm) (entryF (k + 1) l i nm) := fun k => by
  unfold entryF
  exact LeO.bind (inode_Key.mono _ _ _ _ _) (fun _ => LeO.ite (LeO.bind (item_Get.mono _ _ _) (fun _ => dirs_number.mono _ _)) (LeO.refl _))
theorem entry_wf {k : Nat} {l : List VIT} {i : Int} {nm : ByteArray} {r : Int} (h : entryF k l i nm = some r) : 0 ≤ r ∧ r < 4294967296 := by
  unfold entryF at h
  obtain ⟨q, _, h⟩ := Option.bind_eq_some_iff.mp h
  split at h
  · obtain ⟨x, _, h⟩ := Option.bind_eq_some_iff.mp h
    exact number_wf h
  · have := Option.some.inj h
    omega
set_option maxRecDepth 100000 in
set_option maxHeartbeats 3200000 in
theorem entry_calls (k : Nat) (g base : Nat) (A : Option Addr) (c : Nat) (l : List VIT) (sm : Int) (s : VS) (i : Int) (nm : ByteArray) (r : Int) (w : World) (hV : VolOf w g base A c l sm s) (hC : Kd.C k61 w A l.length l) (hc : l.length ≤ c) (h : entryF k l i nm = some r) :
    Calls Try.prog 24 #[.pointer (some ⟨g, 0, none⟩), .int .u32 i, .string nm] w fun e w' => e = .returned (.int .u32 r) ∧ Below w.heap.size w w' := by
  obtain ⟨va, bi, bu, hG, _⟩ := hV
  have GB := Aside0.mk hG
  have HC := Aside0.mk hC
  have HP := Aside0.mk hc
  unfold entryF at h
  obtain ⟨⟨ky, wy⟩, hk, h⟩ := Option.bind_eq_some_iff.mp h
  have HK := Aside0.mk hk
  clear hG hC hc hk
  by_cases h0 : wy = 0
  · rw [if_pos h0] at h
    subst h0
    obtain ⟨⟨vl, wv⟩, hg, h⟩ := Option.bind_eq_some_iff.mp h
    have HG := Aside0.mk hg
    have HN := Aside0.mk h
    clear hg h
    go_enter Try.func24, Try.ntmps24
    go_wp2_with (first
      | (go_at_call 20; refine (inode_Key.calls k 2 i nm 0 ky 0 _ HK.out).mono ?_; rintro e w1 ⟨rfl, hb⟩; have B1 := Aside0.mk hb; have q0 : w1.cell? ⟨g, 0, none⟩ = some (.slice A l.length c) := (blk_cell (blk_below GB.out hb) 0).trans rfl; clear hb)
      | (go_at_call 39; refine (item_Get.calls k A c l ky vl wv _ (Kd.C_below HC.out B1.out) HP.out HG.out).mono ?_; rintro e w2 ⟨rfl, hb⟩; have B2 := Aside0.mk (below_step B1.out hb); clear hb)
      | (go_at_call 27; refine (dirs_number.calls k vl r _ HN.out).mono ?_; rintro e w3 ⟨rfl, hd⟩; have B3 := Aside0.mk (below_step B2.out hd.below); clear hd))
    go_ret
    exact ⟨rfl, B3.out⟩
  · rw [if_neg h0] at h
    have e0 : (wy != 0) = true := bne_iff_ne.2 h0
    obtain rfl := Option.some.inj h
    clear h h0
    go_enter Try.func24, Try.ntmps24
    go_wp2_with (first
      | (go_at_call 20; refine (inode_Key.calls k 2 i nm 0 ky wy _ HK.out).mono ?_; rintro e w1 ⟨rfl, hb⟩; have B1 := Aside0.mk hb; clear hb))
    go_ret
    exact ⟨rfl, B1.out⟩
/-- The least number from n on that has no inode. -/
def nextL (ino : Int → Option INd) : Nat → Int → Option Int
  | 0, _ => none
  | k + 1, n => if (ino n).isSome = true then nextL ino k ((n + 1) % 4294967296) else some n
theorem nextL.mono (ino : Int → Option INd) : ∀ (k : Nat) (n : Int), LeO (nextL ino k n) (nextL ino (k + 1) n)
  | 0, n => fun r h => by simp [nextL] at h
  | k + 1, n => by
    unfold nextL
    exact LeO.ite (nextL.mono ino k _) (LeO.refl _)
set_option maxRecDepth 100000 in
set_option maxHeartbeats 3200000 in
theorem next_calls (k : Nat) (g base : Nat) (it : Value) (d m sm : Int) (r : Bool) (s : VS) (res : Int) (w : World) (hV : VolR w g base it d m sm r s) (h : nextL s.ino k 2 = some res) :
    Calls Try.prog 19 #[.pointer (some ⟨g, 0, none⟩)] w fun e w' => e = .returned (.int .u32 res) ∧ Below w.heap.size w w' := by
  obtain ⟨va, bi, bu, hG, hA, hI, _⟩ := hV
  have GB := Aside0.mk hG
  have MI := Aside0.mk hI
  have H := Aside0.mk h
  clear hG hA hI h
  have hnot : ∀ (x : Bool) (w : World), (Op.unary .not (.bool x)).run Try.prog w = .ok (.bool (!x)) w := fun _ _ => rfl
  go_enter Try.func19, Try.ntmps19
  go_wp2
  go_loopg [3] k (fun kq v3 wr => ∃ i : Int, v3 = .int .u32 i ∧ Aside0 (nextL s.ino kq i = some res) ∧ Aside0 (kq ≤ k) ∧ Aside0 (0 ≤ i ∧ i < 4294967296) ∧ Aside0 (Below w.heap.size w wr))
  case atStart => exact ⟨2, rfl, H, ⟨Nat.le_refl _⟩, ⟨by decide⟩, ⟨Below.refl _ _⟩⟩
  case round =>
    obtain ⟨i, rfl, HA, HK1, HI, HBW⟩ := hrel
    cases gk with
    | zero => exact absurd HA.out (by simp [nextL])
    | succ k1 =>
      have hR := HA.out
      rw [nextL] at hR
      obtain ⟨n, hn⟩ : ∃ n, n = (s.ino i).getD zI := ⟨_, rfl⟩
      obtain ⟨b, hb⟩ : ∃ b, b = (s.ino i).isSome := ⟨_, rfl⟩
      rw [← hb] at hR
      have q6 : wr.cell? ⟨g, 6, none⟩ = some (.map (some bi)) := (blk_cell (blk_below GB.out HBW.out) 6).trans rfl
      have HN := Aside0.mk hn
      have HB := Aside0.mk hb
      clear hn hb
      have lk := lookB (MI.out.below HBW.out) HI.out HN.out HB.out
      cases b with
      | true =>
        rw [if_pos rfl] at hR
        have HRR := Aside0.mk hR
        have e1 : IntKind.u32.wrap (i + 1) = (i + 1) % 4294967296 := by rw [IntKind.wrap_u32]
        clear hR
        go_wp2_with (first | ((with_reducible refine gate_dst (N := 4) rfl ?_); refine var_event (N := 4) (T := 37) (n := 5) (zc := #[.int .u8 0, .int .u16 0, .int .u32 0, .int .u32 0, .string ⟨#[]⟩]) (cs := #[.int .u8 n.kd, .int .u16 n.md, .int .u32 n.ln, .int .u32 n.sz, .string n.tg]) rfl rfl rfl (.tmp 13) rfl rfl ?hr (by kernel_rfl) rfl rfl rfl ?hx ?hN ?_; (case hx => intro p_; rfl); (case hN => intro p_; rfl); (case hr => first | (go_simp; done) | (go_simp; rfl)); intro gn hgn w4 hx hb; have B4 := Aside0.mk (below_step HBW.out hb); clear hx hb hgn q6 lk))
        go_roundg k1
        case measure => have := HK1.out; omega
        case rel => exact ⟨(i + 1) % 4294967296, (by first | rfl | simp [e1] | (rw [e1])), HRR, ⟨by have := HK1.out; omega⟩, ⟨by omega⟩, B4⟩
      | false =>
        rw [if_neg (by decide)] at hR
        obtain rfl := Option.some.inj hR
        clear hR
        go_wp2_with (first | ((with_reducible refine gate_dst (N := 4) rfl ?_); refine var_event (N := 4) (T := 37) (n := 5) (zc := #[.int .u8 0, .int .u16 0, .int .u32 0, .int .u32 0, .string ⟨#[]⟩]) (cs := #[.int .u8 n.kd, .int .u16 n.md, .int .u32 n.ln, .int .u32 n.sz, .string n.tg]) rfl rfl rfl (.tmp 13) rfl rfl ?hr (by kernel_rfl) rfl rfl rfl ?hx ?hN ?_; (case hx => intro p_; rfl); (case hN => intro p_; rfl); (case hr => first | (go_simp; done) | (go_simp; rfl)); intro gn hgn w4 hx hb; have B4 := Aside0.mk (below_step HBW.out hb); clear hx hb hgn q6 lk))
        go_ret
        exact ⟨rfl, B4.out⟩
end Go.Proofs.Ytpnmajblhgnkoaa.Z
end

section
/- slices.Grow, slices.Concat, of texts. -/
namespace Go.Proofs.Ytpnmajblhgnkoaa.Z
open Go.RowKit Go.Proofs.YtpnmajblhgnkoaaW.PrintWords Go.Proofs.YtpnmajblhgnkoaaW.PrintLast Go.Proofs.YtpnmajblhgnkoaaW.PrintMore
set_option linter.unusedVariables false
set_option linter.unusedSimpArgs false
theorem info_str : (Try.prog.info? 9).map (fun i => (i.zero, i.size, i.bytes)) = some (some (.string ⟨#[]⟩), 1, 16) := by kernel_rfl
set_option maxRecDepth 100000 in
set_option maxHeartbeats 1600000 in
theorem grow_calls (n : Nat) (hn : n ≤ 10995116277760) (w : World) :
    Calls Try.prog 43 #[.slice none 0 0, .int .i64 n] w fun e w' => ∃ v, e = .returned v ∧ Kd.R Kd.string 9 w' w.heap.size (fun _ => True) v [] ∧ Below w.heap.size w w' := by
  by_cases h0 : 0 < n
  · obtain ⟨i, hi, hz, hs, hb⟩ := info_parts info_str
    have hrun := fun ty => Lib.run_append_nil_zeros (P := Try.prog) w 23 3 ty 9 i (.string ⟨#[]⟩) .i64 .i64 Try.underlying23 Try.underlying3 hi hz n h0 (by rw [hs]; decide) (by omega) (by rw [hb]; omega)
    obtain ⟨cp, hcp⟩ : ∃ cp, cp = grownCap w n 0 9 := ⟨_, rfl⟩
    have hge : n ≤ cp := by rw [hcp]; exact grownCap_ge _ _ _ _
    have hmx : cp ≤ maxLen := by rw [hcp]; exact grownCap_le_maxLen _ _ _ _ (by unfold maxLen; omega)
    have hsz : (Builtin.zeroCells (Value.string ⟨#[]⟩).cells n ++ Builtin.zeroCells (Value.string ⟨#[]⟩).cells (cp - n)).size = cp * 1 := by
      rw [Array.size_append, size_zeroCells, size_zeroCells]
      simp [Value.cells]
      omega
    have hpos : decide ((0 : Int) < n) = true := decide_eq_true (by omega)
    have hpos2 : decide (0 < n) = true := decide_eq_true h0
    have hneg : decide ((n : Int) < 0) = false := decide_eq_false (by omega)
    have hw1 : IntKind.i64.wrap (n : Int) = n := by rw [IntKind.wrap_i64]; omega
    have HG := Aside0.mk hge
    have HM := Aside0.mk hmx
    have HS := Aside0.mk hsz
    have HR := Aside0.mk hrun
    have HCP := Aside0.mk hcp
    have pc := eq_true (show (0 : Int) ≤ cp by omega)
    clear hrun hsz hge hmx hi hz hs hb h0 hcp
    go_enter Try.func43, Try.ntmps43
    go_wp2_with (at_builtin; refine Lib.wpList_append_run _ rfl (.tmp 20) (.tmp 21) 23 3 rfl (.slice none 0 0) (.int .i64 n) rfl rfl (.slice (some ⟨w.heap.size, 0, none⟩) n cp) (w.drew.alloc (.cells (Builtin.zeroCells (Value.string ⟨#[]⟩).cells n ++ Builtin.zeroCells (Value.string ⟨#[]⟩).cells (cp - n)) 9)) (by rw [HCP.out]; exact HR.out _) ?_; have B1 := Aside0.mk (blk_new w.drew (.cells (Builtin.zeroCells (Value.string ⟨#[]⟩).cells n ++ Builtin.zeroCells (Value.string ⟨#[]⟩).cells (cp - n)) 9)); have D1 := Aside0.mk (below_alloc (below_drew1 (Below.refl w.heap.size w)) (.cells (Builtin.zeroCells (Value.string ⟨#[]⟩).cells n ++ Builtin.zeroCells (Value.string ⟨#[]⟩).cells (cp - n)) 9)); generalize (w.drew.alloc (.cells (Builtin.zeroCells (Value.string ⟨#[]⟩).cells n ++ Builtin.zeroCells (Value.string ⟨#[]⟩).cells (cp - n)) 9)) = w1 at B1 D1 ⊢)
    go_ret
    exact ⟨_, rfl, R_of_row (d := Kd.string) (xs := []) (inner := []) (Nat.le_refl _) trivial B1.out (Nat.zero_le _) HM.out HS.out rfl rfl (fun ok' => Reps.none _ _), D1.out⟩
  · obtain rfl : n = 0 := by omega
    go_enter Try.func43, Try.ntmps43
    go_wp2
    go_ret
    exact ⟨_, rfl, Kd.R_nil _ _ _ _ _, Below.refl _ _⟩
theorem str_base {w : World} {base : Nat} {v : Value} {l : List ByteArray} (h : Kd.R Kd.string 9 w base (fun _ => True) v l) (b : Nat) (e : v.ownBlock = some b) : base ≤ b := by
  obtain ⟨inner, ho⟩ := Kd.R_own h
  exact own_base ho b e
set_option maxRecDepth 100000 in
set_option maxHeartbeats 3200000 in
theorem concat_calls (gq : Nat) (t : TypeId) (A1 A2 : Option Addr) (c1 c2 : Nat) (l1 l2 : List ByteArray) (w : World) (hq : w.heap[gq]? = some (.cells #[.slice A1 l1.length c1, .slice A2 l2.length c2] t (0, 0))) (h1 : Kd.C Kd.string w A1 l1.length l1) (h2 : Kd.C Kd.string w A2 l2.length l2) (hl : l1.length + l2.length ≤ 10995116277760) :
    Calls Try.prog 26 #[.slice (some ⟨gq, 0, none⟩) 2 2] w fun e w' => ∃ v, e = .returned v ∧ Kd.R Kd.string 9 w' w.heap.size (fun _ => True) v (l1 ++ l2) ∧ Below w.heap.size w w' := by
  have HQ := Aside0.mk hq
  have H1 := Aside0.mk h1
  have H2 := Aside0.mk h2
  have HL := Aside0.mk hl
  clear hq h1 h2 hl
  go_enter Try.func26, Try.ntmps26
  go_wp2
  go_loopw [3, 11] (fun vs vi wr => ∃ i : Nat, vi = .int .i64 i ∧ vs = .int .i64 (if i = 0 then 0 else if i = 1 then l1.length else l1.length + l2.length : Nat) ∧ i ≤ 2 ∧ Aside0 (Below w.heap.size w wr)) (fun _ vi _ => 2 - (intOf vi).toNat)
  case atStart => exact ⟨0, rfl, rfl, by omega, ⟨Below.refl _ _⟩⟩
  case round =>
    obtain ⟨i, rfl, rfl, hi, HB⟩ := hrel
    have G1 := Aside0.mk (blk_below HQ.out HB.out)
    have hll := HL.out
    have hi3 : i = 0 ∨ i = 1 ∨ i = 2 := by omega
    rcases hi3 with rfl | rfl | rfl
    · have c0 : wr.cell? ⟨gq, 0, none⟩ = some (.slice A1 l1.length c1) := (blk_cell G1.out 0).trans rfl
      have e1 : IntKind.i64.wrap (l1.length : Int) = l1.length := by rw [IntKind.wrap_i64]; omega
      have e2 : decide ((l1.length : Int) < 0) = false := decide_eq_false (by omega)
      clear hll hi
      go_wp2
      exact ⟨⟨1, rfl, rfl, by omega, HB⟩, by decide⟩
    · have c0 : wr.cell? ⟨gq, 1, none⟩ = some (.slice A2 l2.length c2) := (blk_cell G1.out 1).trans rfl
      have e1 : IntKind.i64.wrap ((l1.length : Int) + (l2.length : Int)) = (l1.length : Int) + (l2.length : Int) := by rw [IntKind.wrap_i64]; omega
      have e2 : decide ((l1.length : Int) + (l2.length : Int) < 0) = false := decide_eq_false (by omega)
      clear hll hi
      go_wp2
      exact ⟨⟨2, rfl, by first | rfl | simp, by omega, HB⟩, by decide⟩
    · clear hll hi
      go_wp2_with (go_at_call 43; refine (grow_calls (l1.length + l2.length) HL.out _).mono ?_; rintro e w1 ⟨v1, rfl, hr, hb⟩; have R1 := Aside0.mk (Kd.R_lower hr HB.out.size); have B1 := Aside0.mk (below_step HB.out hb); clear hr hb)
      go_loopw [6, 27] (fun vn vi wr => ∃ i : Nat, vi = .int .i64 i ∧ i ≤ 2 ∧ Aside0 (Kd.R Kd.string 9 wr w.heap.size (fun _ => True) vn (if i = 0 then [] else if i = 1 then l1 else l1 ++ l2)) ∧ Aside0 (Below w.heap.size w wr)) (fun _ vi _ => 2 - (intOf vi).toNat)
      case atStart => exact ⟨0, rfl, by omega, R1, B1⟩
      case round =>
        obtain ⟨i, rfl, hi, HR, HB2⟩ := hrel
        obtain ⟨A0, c0_, hv⟩ := Kd.R_slice HR.out
        obtain ⟨n0, hn0⟩ : ∃ n0, n0 = (if i = 0 then [] else if i = 1 then l1 else l1 ++ l2 : List ByteArray).length := ⟨_, rfl⟩
        rw [← hn0] at hv
        subst hv
        have G2 := Aside0.mk (blk_below HQ.out HB2.out)
        have hi3 : i = 0 ∨ i = 1 ∨ i = 2 := by omega
        clear G1
        rcases hi3 with rfl | rfl | rfl
        · have c0 : wr.cell? ⟨gq, 0, none⟩ = some (.slice A1 l1.length c1) := (blk_cell G2.out 0).trans rfl
          clear hi hn0
          go_wp2_with ((at_builtin; refine append_wide_event (d := Kd.string) flat_string w.heap.size rfl (.tmp 31) (.tmp 32) 23 9 (.string ⟨#[]⟩) 16 rfl Try.underlying23 info_str rfl (by decide) (.slice A0 n0 c0_) [] l1 A1 l1.length c1 rfl rfl HR.out (Kd.C_below H1.out HB2.out) HB2.out.size (by have := HL.out; simp; omega) (by have := HL.out; unfold maxLen; simp; omega) ?_; intro v3 w3 ho hg; have R3 := Aside0.mk ho; have B3 := Aside0.mk (HB2.out.grown hg HB2.out.size (fun j hj => str_base HR.out j hj)); clear ho hg))
          exact ⟨⟨1, rfl, by omega, R3, B3⟩, by decide⟩
        · have c0 : wr.cell? ⟨gq, 1, none⟩ = some (.slice A2 l2.length c2) := (blk_cell G2.out 1).trans rfl
          clear hi hn0
          go_wp2_with ((at_builtin; refine append_wide_event (d := Kd.string) flat_string w.heap.size rfl (.tmp 31) (.tmp 32) 23 9 (.string ⟨#[]⟩) 16 rfl Try.underlying23 info_str rfl (by decide) (.slice A0 n0 c0_) l1 l2 A2 l2.length c2 rfl rfl HR.out (Kd.C_below H2.out HB2.out) HB2.out.size (by have := HL.out; simp; omega) (by have := HL.out; unfold maxLen; simp; omega) ?_; intro v3 w3 ho hg; have R3 := Aside0.mk ho; have B3 := Aside0.mk (HB2.out.grown hg HB2.out.size (fun j hj => str_base HR.out j hj)); clear ho hg))
          exact ⟨⟨2, rfl, by omega, R3, B3⟩, by decide⟩
        · clear hi hn0
          go_wp2
          go_ret
          exact ⟨_, rfl, HR.out, HB2.out⟩
end Go.Proofs.Ytpnmajblhgnkoaa.Z
end

section
-- Printed by a program of this session (mp.py) out of the translation.
namespace Go.Proofs.Ytpnmajblhgnkoaa.Z
open Go.RowKit Go.Proofs.YtpnmajblhgnkoaaW.PrintWords Go.Proofs.YtpnmajblhgnkoaaW.PrintLast Go.Proofs.YtpnmajblhgnkoaaW.PrintMore
attribute [local go_sem] max2_int min2_int max_two min_two max_three min_three max_four min_four   -- for this text's walks alone
set_option linter.unusedVariables false
set_option linter.unusedSimpArgs false

/-! ### stringslite_HasPrefix: function 73 -/
def stringslite_HasPrefix.f (a0 : ByteArray) (a1 : ByteArray) : Option (Bool) := if (a0.size : Int) ≥ (a1.size : Int) then (if 0 ≤ (a1.size : Int) then (if (a1.size : Int) ≤ (a0.size : Int) then (some ((a0.extract 0 ((a1.size : Int) : Int).toNat).toList == a1.toList)) else (none)) else (none)) else (some false)
set_option maxHeartbeats 8000000 in
set_option maxRecDepth 100000 in
theorem stringslite_HasPrefix.calls (a0 : ByteArray) (a1 : ByteArray) (r : Bool) (w : World) (h : stringslite_HasPrefix.f a0 a1 = some r) :
    Calls Try.prog 73 #[.string a0, .string a1] w fun e w' => e = .returned (.bool r) ∧ Drawn0 w w' := by
  have H : (if (a0.size : Int) ≥ (a1.size : Int) then (if 0 ≤ (a1.size : Int) then (if (a1.size : Int) ≤ (a0.size : Int) then (some ((a0.extract 0 ((a1.size : Int) : Int).toNat).toList == a1.toList)) else (none)) else (none)) else (some false)) = some r := h
  clear h
  by_cases c3 : (a0.size : Int) ≥ (a1.size : Int)
  · rw [if_pos c3] at H
    have c3b0 : decide ((a1.size : Int) ≤ (a0.size : Int)) = true := decide_eq_true c3
    have c3b1 : decide (a1.size ≤ a0.size) = true := decide_eq_true (Int.ofNat_le.mp c3)
    clear c3
    by_cases c4 : 0 ≤ (a1.size : Int)
    · rw [if_pos c4] at H
      have c4b0 := eq_true c4
      have c4b1 : decide (0 ≤ (a1.size : Int)) = true := decide_eq_true c4
      clear c4
      by_cases c5 : (a1.size : Int) ≤ (a0.size : Int)
      · rw [if_pos c5] at H
        have c5b0 := eq_true c5
        have c5b1 : decide ((a1.size : Int) ≤ (a0.size : Int)) = true := decide_eq_true c5
        clear c5
        obtain rfl := Option.some.inj H
        go_enter Try.func73, Try.ntmps73
        go_wp2
        go_ret
        exact ⟨by first | rfl | (simp; done) | (simp [*]; done), by repeat (first | exact Drawn0.refl _ | apply Drawn0.step)⟩
      rw [if_neg c5] at H
      exact absurd H (by simp)
    rw [if_neg c4] at H
    exact absurd H (by simp)
  rw [if_neg c3] at H
  have c3b0 : decide ((a1.size : Int) ≤ (a0.size : Int)) = false := decide_eq_false c3
  have c3b1 : decide (a1.size ≤ a0.size) = false := decide_eq_false (fun h => c3 (Int.ofNat_le.mpr h))
  clear c3
  obtain rfl := Option.some.inj H
  go_enter Try.func73, Try.ntmps73
  go_wp2
  go_ret
  exact ⟨by first | rfl | (simp; done) | (simp [*]; done), by repeat (first | exact Drawn0.refl _ | apply Drawn0.step)⟩

end Go.Proofs.Ytpnmajblhgnkoaa.Z
end

section
-- Printed by a program of this session (mp.py) out of the translation.
namespace Go.Proofs.Ytpnmajblhgnkoaa.Z
open Go.RowKit Go.Proofs.YtpnmajblhgnkoaaW.PrintWords Go.Proofs.YtpnmajblhgnkoaaW.PrintLast Go.Proofs.YtpnmajblhgnkoaaW.PrintMore
attribute [local go_sem] max2_int min2_int max_two min_two max_three min_three max_four min_four   -- for this text's walks alone
set_option linter.unusedVariables false
set_option linter.unusedSimpArgs false

/-! ### stringslite_CutPrefix: function 58 -/
def stringslite_CutPrefix.f (a0 : ByteArray) (a1 : ByteArray) : Option (ByteArray × Bool) := (stringslite_HasPrefix.f a0 a1).bind fun t116 => (if t116 = true then (if 0 ≤ (a1.size : Int) then (if (a1.size : Int) ≤ (a0.size : Int) then (some (a0.extract ((a1.size : Int) : Int).toNat a0.size, true)) else (none)) else (none)) else (some (a0, false)))
set_option maxHeartbeats 8000000 in
set_option maxRecDepth 100000 in
theorem stringslite_CutPrefix.calls (a0 : ByteArray) (a1 : ByteArray) (r1 : ByteArray) (r2 : Bool) (w : World) (h : stringslite_CutPrefix.f a0 a1 = some (r1, r2)) :
    Calls Try.prog 58 #[.string a0, .string a1] w fun e w' => e = .returned (.tuple #[.string r1, .bool r2]) ∧ Drawn0 w w' := by
  have H : ((stringslite_HasPrefix.f a0 a1).bind fun t116 => (if t116 = true then (if 0 ≤ (a1.size : Int) then (if (a1.size : Int) ≤ (a0.size : Int) then (some (a0.extract ((a1.size : Int) : Int).toNat a0.size, true)) else (none)) else (none)) else (some (a0, false)))) = some (r1, r2) := h
  clear h
  replace H := Option.bind_eq_some_iff.mp H
  obtain ⟨t116, A30, H⟩ := H
  replace H : (if t116 = true then (if 0 ≤ (a1.size : Int) then (if (a1.size : Int) ≤ (a0.size : Int) then (some (a0.extract ((a1.size : Int) : Int).toNat a0.size, true)) else (none)) else (none)) else (some (a0, false))) = some (r1, r2) := H
  have A3 := Aside0.mk A30
  clear A30
  by_cases c4 : t116 = true
  · subst c4
    have H1 : (if 0 ≤ (a1.size : Int) then (if (a1.size : Int) ≤ (a0.size : Int) then (some (a0.extract ((a1.size : Int) : Int).toNat a0.size, true)) else (none)) else (none)) = some (r1, r2) := by rw [if_pos rfl] at H; exact H
    clear H
    have H := H1
    clear H1
    by_cases c5 : 0 ≤ (a1.size : Int)
    · rw [if_pos c5] at H
      have c5b0 := eq_true c5
      have c5b1 : decide (0 ≤ (a1.size : Int)) = true := decide_eq_true c5
      clear c5
      by_cases c6 : (a1.size : Int) ≤ (a0.size : Int)
      · rw [if_pos c6] at H
        have c6b0 := eq_true c6
        have c6b1 : decide ((a1.size : Int) ≤ (a0.size : Int)) = true := decide_eq_true c6
        clear c6
        simp only [Option.some.injEq, Prod.mk.injEq] at H
        obtain ⟨rfl, rfl⟩ := H
        go_enter Try.func58, Try.ntmps58
        go_wp2_with (first | ((with_reducible refine gate_callee (f := 73) rfl ?_); refine gl_ (some 8) Try.func73 #[.string a0, .string a1] ?_; (with_reducible refine (stringslite_HasPrefix.calls a0 a1 true _ A3.out).mono ?_); rintro e w' ⟨rfl, ⟨nd, rfl⟩⟩; refine ⟨_, rfl, ?_⟩))
        go_ret2
        exact ⟨by first | rfl | (simp; done) | (simp [*]; done), by repeat (first | exact Drawn0.refl _ | apply Drawn0.step)⟩
      rw [if_neg c6] at H
      exact absurd H (by simp)
    rw [if_neg c5] at H
    exact absurd H (by simp)
  replace c4 := Bool.eq_false_iff.mpr c4
  subst c4
  have H1 : (some (a0, false)) = some (r1, r2) := by rw [if_neg (show ¬ (false = true) by decide)] at H; exact H
  clear H
  have H := H1
  clear H1
  simp only [Option.some.injEq, Prod.mk.injEq] at H
  obtain ⟨rfl, rfl⟩ := H
  go_enter Try.func58, Try.ntmps58
  go_wp2_with (first | ((with_reducible refine gate_callee (f := 73) rfl ?_); refine gl_ (some 8) Try.func73 #[.string a0, .string a1] ?_; (with_reducible refine (stringslite_HasPrefix.calls a0 a1 false _ A3.out).mono ?_); rintro e w' ⟨rfl, ⟨nd, rfl⟩⟩; refine ⟨_, rfl, ?_⟩))
  go_ret2
  exact ⟨by first | rfl | (simp; done) | (simp [*]; done), by repeat (first | exact Drawn0.refl _ | apply Drawn0.step)⟩

end Go.Proofs.Ytpnmajblhgnkoaa.Z
end

section
-- Printed by a program of this session (mp.py) out of the translation.
namespace Go.Proofs.Ytpnmajblhgnkoaa.Z
open Go.RowKit Go.Proofs.YtpnmajblhgnkoaaW.PrintWords Go.Proofs.YtpnmajblhgnkoaaW.PrintLast Go.Proofs.YtpnmajblhgnkoaaW.PrintMore
attribute [local go_sem] max2_int min2_int max_two min_two max_three min_three max_four min_four   -- for this text's walks alone
set_option linter.unusedVariables false
set_option linter.unusedSimpArgs false

/-! ### strings_CutPrefix: function 40 -/
def strings_CutPrefix.f (a0 : ByteArray) (a1 : ByteArray) : Option (ByteArray × Bool) := (stringslite_CutPrefix.f a0 a1).bind fun bt117 => (some (bt117.1, bt117.2))
set_option maxHeartbeats 8000000 in
set_option maxRecDepth 100000 in
theorem strings_CutPrefix.calls (a0 : ByteArray) (a1 : ByteArray) (r1 : ByteArray) (r2 : Bool) (w : World) (h : strings_CutPrefix.f a0 a1 = some (r1, r2)) :
    Calls Try.prog 40 #[.string a0, .string a1] w fun e w' => e = .returned (.tuple #[.string r1, .bool r2]) ∧ Drawn0 w w' := by
  have H : ((stringslite_CutPrefix.f a0 a1).bind fun bt117 => (some (bt117.1, bt117.2))) = some (r1, r2) := h
  clear h
  replace H := Option.bind_eq_some_iff.mp H
  obtain ⟨⟨t117, t118⟩, A30, H⟩ := H
  replace H : (some (t117, t118)) = some (r1, r2) := H
  have A3 := Aside0.mk A30
  clear A30
  simp only [Option.some.injEq, Prod.mk.injEq] at H
  obtain ⟨rfl, rfl⟩ := H
  go_enter Try.func40, Try.ntmps40
  go_wp2_with (first | ((with_reducible refine gate_callee (f := 58) rfl ?_); refine gl_ (some 8) Try.func58 #[.string a0, .string a1] ?_; (with_reducible refine (stringslite_CutPrefix.calls a0 a1 t117 t118 _ A3.out).mono ?_); rintro e w' ⟨rfl, ⟨nd, rfl⟩⟩; refine ⟨_, rfl, ?_⟩))
  go_ret2
  exact ⟨by first | rfl | (simp; done) | (simp [*]; done), by repeat (first | exact Drawn0.refl _ | apply Drawn0.step)⟩

end Go.Proofs.Ytpnmajblhgnkoaa.Z
end

section
/- The contracts of path.Name, strings.Cut at one byte, path.Join. -/
namespace Go.Proofs.Ytpnmajblhgnkoaa.Z
open Go.RowKit Go.Proofs.YtpnmajblhgnkoaaW.PrintWords Go.Proofs.YtpnmajblhgnkoaaW.PrintLast
set_option linter.unusedVariables false
set_option linter.unusedSimpArgs false

/-- The first place of one byte. -/
def stringslite_Index.f (a0 a1 : ByteArray) : Option Int := if h : a1.size = 1 then some (Lib.indexByte a0.data.toList (a1.data[0]'(by have : a1.data.size = 1 := h; omega))) else none
theorem stringslite_Index.calls (a0 a1 : ByteArray) (r : Int) (w : World) (h : stringslite_Index.f a0 a1 = some r) :
    Calls Try.prog 74 #[.string a0, .string a1] w fun e w' => e = .returned (.int .i64 r) ∧ Drawn0 w w' := by
  unfold stringslite_Index.f at h
  split at h
  case isFalse => cases h
  case isTrue hs =>
    obtain ⟨d⟩ := a1
    obtain ⟨l⟩ := d
    match l, hs with
    | [c], _ =>
      obtain rfl := Option.some.inj h
      exact (Try.stringslite_Index_one a0 c w).mono fun e w' ⟨he, hw⟩ => ⟨he, hw ▸ Drawn0.refl _⟩
    | [], hs => exact absurd hs (by decide)
    | _ :: _ :: _, hs => exact absurd hs (by simp [ByteArray.size])

end Go.Proofs.Ytpnmajblhgnkoaa.Z
end

section
-- Printed by a program of this session (mp.py) out of the translation.
namespace Go.Proofs.Ytpnmajblhgnkoaa.Z
open Go.RowKit Go.Proofs.YtpnmajblhgnkoaaW.PrintWords Go.Proofs.YtpnmajblhgnkoaaW.PrintLast Go.Proofs.YtpnmajblhgnkoaaW.PrintMore
attribute [local go_sem] max2_int min2_int max_two min_two max_three min_three max_four min_four   -- for this text's walks alone
set_option linter.unusedVariables false
set_option linter.unusedSimpArgs false

/-! ### stringslite_Cut: function 59 -/
def stringslite_Cut.f (a0 : ByteArray) (a1 : ByteArray) : Option (ByteArray × ByteArray × Bool) := (stringslite_Index.f a0 a1).bind fun t119 => (if t119 ≥ 0 then (if 0 ≤ t119 then (if t119 ≤ (a0.size : Int) then (if 0 ≤ (wrap64 (t119 + (a1.size : Int))) then (if (wrap64 (t119 + (a1.size : Int))) ≤ (a0.size : Int) then (some (a0.extract 0 (t119 : Int).toNat, a0.extract ((wrap64 (t119 + (a1.size : Int))) : Int).toNat a0.size, true)) else (none)) else (none)) else (none)) else (none)) else (some (a0, (⟨#[]⟩ : ByteArray), false)))
set_option maxHeartbeats 8000000 in
set_option maxRecDepth 100000 in
theorem stringslite_Cut.calls (a0 : ByteArray) (a1 : ByteArray) (r1 : ByteArray) (r2 : ByteArray) (r3 : Bool) (w : World) (h : stringslite_Cut.f a0 a1 = some (r1, r2, r3)) :
    Calls Try.prog 59 #[.string a0, .string a1] w fun e w' => e = .returned (.tuple #[.string r1, .string r2, .bool r3]) ∧ Drawn0 w w' := by
  have H : ((stringslite_Index.f a0 a1).bind fun t119 => (if t119 ≥ 0 then (if 0 ≤ t119 then (if t119 ≤ (a0.size : Int) then (if 0 ≤ (wrap64 (t119 + (a1.size : Int))) then (if (wrap64 (t119 + (a1.size : Int))) ≤ (a0.size : Int) then (some (a0.extract 0 (t119 : Int).toNat, a0.extract ((wrap64 (t119 + (a1.size : Int))) : Int).toNat a0.size, true)) else (none)) else (none)) else (none)) else (none)) else (some (a0, (⟨#[]⟩ : ByteArray), false)))) = some (r1, r2, r3) := h
  clear h
  replace H := Option.bind_eq_some_iff.mp H
  obtain ⟨t119, A30, H⟩ := H
  replace H : (if t119 ≥ 0 then (if 0 ≤ t119 then (if t119 ≤ (a0.size : Int) then (if 0 ≤ (wrap64 (t119 + (a1.size : Int))) then (if (wrap64 (t119 + (a1.size : Int))) ≤ (a0.size : Int) then (some (a0.extract 0 (t119 : Int).toNat, a0.extract ((wrap64 (t119 + (a1.size : Int))) : Int).toNat a0.size, true)) else (none)) else (none)) else (none)) else (none)) else (some (a0, (⟨#[]⟩ : ByteArray), false))) = some (r1, r2, r3) := H
  have A3 := Aside0.mk A30
  clear A30
  by_cases c4 : t119 ≥ 0
  · rw [if_pos c4] at H
    have c4b0 : decide (0 ≤ t119) = true := decide_eq_true c4
    clear c4
    by_cases c5 : 0 ≤ t119
    · rw [if_pos c5] at H
      have c5b0 := eq_true c5
      have c5b1 : decide (0 ≤ t119) = true := decide_eq_true c5
      clear c5
      by_cases c6 : t119 ≤ (a0.size : Int)
      · rw [if_pos c6] at H
        have c6b0 := eq_true c6
        have c6b1 : decide (t119 ≤ (a0.size : Int)) = true := decide_eq_true c6
        clear c6
        obtain ⟨ji7, hji7⟩ : ∃ j_ : Int, (wrap64 (t119 + (a1.size : Int))) = j_ := ⟨_, rfl⟩
        replace H : (if 0 ≤ (ji7) then (if (ji7) ≤ (a0.size : Int) then (some (a0.extract 0 (t119 : Int).toNat, a0.extract ((ji7) : Int).toNat a0.size, true)) else (none)) else (none)) = some (r1, r2, r3) := by first | (rw [hji7] at H; exact H) | (simp only [hji7] at H ⊢; exact H)
        (try rw [hji7] at A3)
        have hji7w : (IntKind.i64.wrap (t119 + (a1.size : Int))) = ji7 := (i64_w _).trans hji7
        by_cases c8 : 0 ≤ (ji7)
        · rw [if_pos c8] at H
          have c8b0 := eq_true c8
          have c8b1 : decide (0 ≤ (ji7)) = true := decide_eq_true c8
          clear c8
          by_cases c9 : (ji7) ≤ (a0.size : Int)
          · rw [if_pos c9] at H
            have c9b0 := eq_true c9
            have c9b1 : decide ((ji7) ≤ (a0.size : Int)) = true := decide_eq_true c9
            clear c9
            simp only [Option.some.injEq, Prod.mk.injEq] at H
            obtain ⟨rfl, rfl, rfl⟩ := H
            go_enter Try.func59, Try.ntmps59
            go_wp2_with (first | (go_at_call 74; (with_reducible refine (stringslite_Index.calls a0 a1 t119 _ A3.out).mono ?_); rintro e w' ⟨rfl, ⟨nd, rfl⟩⟩; (try first | exact ⟨rfl, _, World.drewN_drewN _ _ _⟩ | exact ⟨rfl, _, Eq.trans (World.drewN_drewN _ _ _) (congrArg (World.drewN _) (Nat.add_assoc _ _ _))⟩)))
            repeat (go_quiet (first | (go_at_call 74; (with_reducible refine (stringslite_Index.calls a0 a1 t119 _ A3.out).mono ?_); rintro e w' ⟨rfl, ⟨nd, rfl⟩⟩; (try first | exact ⟨rfl, _, World.drewN_drewN _ _ _⟩ | exact ⟨rfl, _, Eq.trans (World.drewN_drewN _ _ _) (congrArg (World.drewN _) (Nat.add_assoc _ _ _))⟩))); try go_wp2_with (first | (go_at_call 74; (with_reducible refine (stringslite_Index.calls a0 a1 t119 _ A3.out).mono ?_); rintro e w' ⟨rfl, ⟨nd, rfl⟩⟩; (try first | exact ⟨rfl, _, World.drewN_drewN _ _ _⟩ | exact ⟨rfl, _, Eq.trans (World.drewN_drewN _ _ _) (congrArg (World.drewN _) (Nat.add_assoc _ _ _))⟩))))
            go_ret3
            exact ⟨by first | rfl | (simp; done) | (simp only [← hji7] <;> (first | rfl | simp)) | (simp [*]; done), by repeat (first | exact Drawn0.refl _ | apply Drawn0.step)⟩
          rw [if_neg c9] at H
          exact absurd H (by simp)
        rw [if_neg c8] at H
        exact absurd H (by simp)
      rw [if_neg c6] at H
      exact absurd H (by simp)
    rw [if_neg c5] at H
    exact absurd H (by simp)
  rw [if_neg c4] at H
  have c4b0 : decide (0 ≤ t119) = false := decide_eq_false c4
  clear c4
  simp only [Option.some.injEq, Prod.mk.injEq] at H
  obtain ⟨rfl, rfl, rfl⟩ := H
  go_enter Try.func59, Try.ntmps59
  go_wp2_with (first | (go_at_call 74; (with_reducible refine (stringslite_Index.calls a0 a1 t119 _ A3.out).mono ?_); rintro e w' ⟨rfl, ⟨nd, rfl⟩⟩; (try first | exact ⟨rfl, _, World.drewN_drewN _ _ _⟩ | exact ⟨rfl, _, Eq.trans (World.drewN_drewN _ _ _) (congrArg (World.drewN _) (Nat.add_assoc _ _ _))⟩)))
  repeat (go_quiet (first | (go_at_call 74; (with_reducible refine (stringslite_Index.calls a0 a1 t119 _ A3.out).mono ?_); rintro e w' ⟨rfl, ⟨nd, rfl⟩⟩; (try first | exact ⟨rfl, _, World.drewN_drewN _ _ _⟩ | exact ⟨rfl, _, Eq.trans (World.drewN_drewN _ _ _) (congrArg (World.drewN _) (Nat.add_assoc _ _ _))⟩))); try go_wp2_with (first | (go_at_call 74; (with_reducible refine (stringslite_Index.calls a0 a1 t119 _ A3.out).mono ?_); rintro e w' ⟨rfl, ⟨nd, rfl⟩⟩; (try first | exact ⟨rfl, _, World.drewN_drewN _ _ _⟩ | exact ⟨rfl, _, Eq.trans (World.drewN_drewN _ _ _) (congrArg (World.drewN _) (Nat.add_assoc _ _ _))⟩))))
  go_ret3
  exact ⟨by first | rfl | (simp; done) | (simp [*]; done), by repeat (first | exact Drawn0.refl _ | apply Drawn0.step)⟩

end Go.Proofs.Ytpnmajblhgnkoaa.Z
end

section
-- Printed by a program of this session (mp.py) out of the translation.
namespace Go.Proofs.Ytpnmajblhgnkoaa.Z
open Go.RowKit Go.Proofs.YtpnmajblhgnkoaaW.PrintWords Go.Proofs.YtpnmajblhgnkoaaW.PrintLast Go.Proofs.YtpnmajblhgnkoaaW.PrintMore
attribute [local go_sem] max2_int min2_int max_two min_two max_three min_three max_four min_four   -- for this text's walks alone
set_option linter.unusedVariables false
set_option linter.unusedSimpArgs false

/-! ### strings_Cut: function 41 -/
def strings_Cut.f (a0 : ByteArray) (a1 : ByteArray) : Option (ByteArray × ByteArray × Bool) := (stringslite_Cut.f a0 a1).bind fun bt120 => (some (bt120.1, bt120.2.1, bt120.2.2))
set_option maxHeartbeats 8000000 in
set_option maxRecDepth 100000 in
theorem strings_Cut.calls (a0 : ByteArray) (a1 : ByteArray) (r1 : ByteArray) (r2 : ByteArray) (r3 : Bool) (w : World) (h : strings_Cut.f a0 a1 = some (r1, r2, r3)) :
    Calls Try.prog 41 #[.string a0, .string a1] w fun e w' => e = .returned (.tuple #[.string r1, .string r2, .bool r3]) ∧ Drawn0 w w' := by
  have H : ((stringslite_Cut.f a0 a1).bind fun bt120 => (some (bt120.1, bt120.2.1, bt120.2.2))) = some (r1, r2, r3) := h
  clear h
  replace H := Option.bind_eq_some_iff.mp H
  obtain ⟨⟨t120, t121, t122⟩, A30, H⟩ := H
  replace H : (some (t120, t121, t122)) = some (r1, r2, r3) := H
  have A3 := Aside0.mk A30
  clear A30
  simp only [Option.some.injEq, Prod.mk.injEq] at H
  obtain ⟨rfl, rfl, rfl⟩ := H
  go_enter Try.func41, Try.ntmps41
  go_wp2_with (first | ((with_reducible refine gate_callee (f := 59) rfl ?_); refine gl_ (some 9) Try.func59 #[.string a0, .string a1] ?_; (with_reducible refine (stringslite_Cut.calls a0 a1 t120 t121 t122 _ A3.out).mono ?_); rintro e w' ⟨rfl, ⟨nd, rfl⟩⟩; refine ⟨_, rfl, ?_⟩))
  go_ret3
  exact ⟨by first | rfl | (simp; done) | (simp [*]; done), by repeat (first | exact Drawn0.refl _ | apply Drawn0.step)⟩

end Go.Proofs.Ytpnmajblhgnkoaa.Z
end

section
-- Printed by a program of this session (mp.py) out of the translation.
namespace Go.Proofs.Ytpnmajblhgnkoaa.Z
open Go.RowKit Go.Proofs.YtpnmajblhgnkoaaW.PrintWords Go.Proofs.YtpnmajblhgnkoaaW.PrintLast Go.Proofs.YtpnmajblhgnkoaaW.PrintMore
attribute [local go_sem] max2_int min2_int max_two min_two max_three min_three max_four min_four   -- for this text's walks alone
set_option linter.unusedVariables false
set_option linter.unusedSimpArgs false

/-! ### path_Split: function 25 -/
def path_Split.l0 : Nat → ByteArray → List ByteArray → Option (List ByteArray × Int)
  | 0, _, _ => none
  | k + 1, x4, x6 => (strings_Cut.f x4 (⟨#[47]⟩ : ByteArray)).bind fun bt125 => ((path_Name.f bt125.1).bind fun t128 => (if t128 = true then (if x6.length < 8796093022208 then ((some (x6 ++ [bt125.1] : List ByteArray)).bind fun y129 => (if bt125.2.2 = true then (path_Split.l0 k bt125.2.1 y129) else (some (y129, 0)))) else (none)) else (some (([] : List ByteArray), 10))))
def path_Split.f (k : Nat) (a0 : ByteArray) : Option (List ByteArray × Int) := if (a0.size : Int) > 256 then (some (([] : List ByteArray), 2)) else ((strings_CutPrefix.f a0 (⟨#[47]⟩ : ByteArray)).bind fun bt123 => (if bt123.2 = true then (if bt123.1.toList = ([] : List UInt8) then (some (([] : List ByteArray), 0)) else (path_Split.l0 k bt123.1 ([] : List ByteArray))) else (some (([] : List ByteArray), 10))))
theorem path_Split.mono_l : ∀ k, (∀ y0 y1, LeO (path_Split.l0 k y0 y1) (path_Split.l0 (k + 1) y0 y1))
  | 0 => fun _ _ r h => by simp [path_Split.l0] at h
  | k + 1 => by
    have ih0 := path_Split.mono_l k
    · intro y0 y1
      unfold path_Split.l0
      repeat' first
      | (with_reducible exact ih0 _ _)
      | (with_reducible exact LeO.refl _)
      | (with_reducible exact LeO.none _)
      | (with_reducible refine LeO.ite ?_ ?_)
      | (with_reducible refine LeO.bind ?_ (fun _ => ?_))
      | exact ih0 _ _
      | exact LeO.none _
      | refine LeO.ite ?_ ?_
      | refine LeO.bind ?_ (fun _ => ?_)
theorem path_Split.mono : ∀ a0 k, LeO (path_Split.f k a0) (path_Split.f (k + 1) a0) := by
  intro a0 k
  have ih0 := path_Split.mono_l k
  unfold path_Split.f
  repeat' first
      | (with_reducible exact ih0 _ _)
      | (with_reducible exact LeO.refl _)
      | (with_reducible exact LeO.none _)
      | (with_reducible refine LeO.ite ?_ ?_)
      | (with_reducible refine LeO.bind ?_ (fun _ => ?_))
      | exact ih0 _ _
      | exact LeO.none _
      | refine LeO.ite ?_ ?_
      | refine LeO.bind ?_ (fun _ => ?_)
set_option maxHeartbeats 8000000 in
set_option maxRecDepth 100000 in
theorem path_Split.calls (k : Nat) (a0 : ByteArray) (r1 : List ByteArray) (r2 : Int) (w : World) (h : path_Split.f k a0 = some (r1, r2)) :
    Calls Try.prog 25 #[.string a0] w fun e w' => ∃ v0_ : Value, e = .returned (.tuple #[v0_, .int .i64 r2]) ∧ Kd.R Kd.string 9 w' w.heap.size (fun _ => True) v0_ r1 ∧ Below w.heap.size w w' := by
  have HB := Aside0.mk (Below.refl w.heap.size w)
  have H : (if (a0.size : Int) > 256 then (some (([] : List ByteArray), 2)) else ((strings_CutPrefix.f a0 (⟨#[47]⟩ : ByteArray)).bind fun bt123 => (if bt123.2 = true then (if bt123.1.toList = ([] : List UInt8) then (some (([] : List ByteArray), 0)) else (path_Split.l0 k bt123.1 ([] : List ByteArray))) else (some (([] : List ByteArray), 10))))) = some (r1, r2) := h
  clear h
  by_cases c2 : (a0.size : Int) > 256
  · rw [if_pos c2] at H
    have c2b0 : decide (256 < (a0.size : Int)) = true := decide_eq_true c2
    have c2b1 : decide (256 < a0.size) = true := decide_eq_true (by omega)
    clear c2
    simp only [Option.some.injEq, Prod.mk.injEq] at H
    obtain ⟨rfl, rfl⟩ := H
    go_enter Try.func25, Try.ntmps25
    go_wp2
    (try (refine wp_scope_post ?_; go_wp2))
    (try (go_step3; go_wp2))
    go_ret2
    exact ⟨_, by first | rfl | (simp [errW_none, errW_some] <;> rfl) | (simp [*, errW_none, errW_some] <;> rfl), by first | exact Kd.R_nil _ _ _ _ _ | exact Kd.N_nil _ _ _ _ _ | exact Kd.V_nil _ _ _ _ _ | exact Kd.Q_nil _ _ _ _ _ | exact Kd.S_nil _ _ _ _ _, bel_⟩
  rw [if_neg c2] at H
  have c2b0 : decide (256 < (a0.size : Int)) = false := decide_eq_false c2
  have c2b1 : decide (256 < a0.size) = false := decide_eq_false (by omega)
  clear c2
  replace H := Option.bind_eq_some_iff.mp H
  obtain ⟨⟨t123, t124⟩, A30, H⟩ := H
  replace H : (if t124 = true then (if t123.toList = ([] : List UInt8) then (some (([] : List ByteArray), 0)) else (path_Split.l0 k t123 ([] : List ByteArray))) else (some (([] : List ByteArray), 10))) = some (r1, r2) := H
  have A3 := Aside0.mk A30
  clear A30
  by_cases c4 : t124 = true
  · subst c4
    have H1 : (if t123.toList = ([] : List UInt8) then (some (([] : List ByteArray), 0)) else (path_Split.l0 k t123 ([] : List ByteArray))) = some (r1, r2) := by rw [if_pos rfl] at H; exact H
    clear H
    have H := H1
    clear H1
    by_cases c5 : t123.toList = ([] : List UInt8)
    · rw [if_pos c5] at H
      have c5b0 : (t123.toList == ([] : List UInt8)) = true := beq_iff_eq.mpr c5
      have c5b1 : (t123.toList != ([] : List UInt8)) = false := bne_eq_false_iff_eq.mpr c5
      clear c5
      simp only [Option.some.injEq, Prod.mk.injEq] at H
      obtain ⟨rfl, rfl⟩ := H
      go_enter Try.func25, Try.ntmps25
      go_wp2_with (first | ((with_reducible refine gate_callee (f := 40) rfl ?_); refine gl_ (some 15) Try.func40 #[.string a0, .string (⟨#[47]⟩ : ByteArray)] ?_; (with_reducible refine (strings_CutPrefix.calls a0 (⟨#[47]⟩ : ByteArray) t123 true _ A3.out).mono ?_); rintro e w' ⟨rfl, ⟨nd, rfl⟩⟩; refine ⟨_, rfl, ?_⟩))
      (try (refine wp_scope_post ?_; go_wp2_with (first | ((with_reducible refine gate_callee (f := 40) rfl ?_); refine gl_ (some 15) Try.func40 #[.string a0, .string (⟨#[47]⟩ : ByteArray)] ?_; (with_reducible refine (strings_CutPrefix.calls a0 (⟨#[47]⟩ : ByteArray) t123 true _ A3.out).mono ?_); rintro e w' ⟨rfl, ⟨nd, rfl⟩⟩; refine ⟨_, rfl, ?_⟩))))
      (try (go_step3; go_wp2_with (first | ((with_reducible refine gate_callee (f := 40) rfl ?_); refine gl_ (some 15) Try.func40 #[.string a0, .string (⟨#[47]⟩ : ByteArray)] ?_; (with_reducible refine (strings_CutPrefix.calls a0 (⟨#[47]⟩ : ByteArray) t123 true _ A3.out).mono ?_); rintro e w' ⟨rfl, ⟨nd, rfl⟩⟩; refine ⟨_, rfl, ?_⟩))))
      go_ret2
      exact ⟨_, by first | rfl | (simp [errW_none, errW_some] <;> rfl) | (simp [*, errW_none, errW_some] <;> rfl), by first | exact Kd.R_nil _ _ _ _ _ | exact Kd.N_nil _ _ _ _ _ | exact Kd.V_nil _ _ _ _ _ | exact Kd.Q_nil _ _ _ _ _ | exact Kd.S_nil _ _ _ _ _, bel_⟩
    rw [if_neg c5] at H
    have c5b0 : (t123.toList == ([] : List UInt8)) = false := beq_eq_false_iff_ne.mpr c5
    have c5b1 : (t123.toList != ([] : List UInt8)) = true := bne_iff_ne.mpr c5
    have H' := Aside0.mk H
    clear H
    go_enter Try.func25, Try.ntmps25
    go_wp2_with (first | ((with_reducible refine gate_callee (f := 40) rfl ?_); refine gl_ (some 15) Try.func40 #[.string a0, .string (⟨#[47]⟩ : ByteArray)] ?_; (with_reducible refine (strings_CutPrefix.calls a0 (⟨#[47]⟩ : ByteArray) t123 true _ A3.out).mono ?_); rintro e w' ⟨rfl, ⟨nd, rfl⟩⟩; refine ⟨_, rfl, ?_⟩))
    (try (refine wp_scope_post ?_; go_wp2_with (first | ((with_reducible refine gate_callee (f := 40) rfl ?_); refine gl_ (some 15) Try.func40 #[.string a0, .string (⟨#[47]⟩ : ByteArray)] ?_; (with_reducible refine (strings_CutPrefix.calls a0 (⟨#[47]⟩ : ByteArray) t123 true _ A3.out).mono ?_); rintro e w' ⟨rfl, ⟨nd, rfl⟩⟩; refine ⟨_, rfl, ?_⟩))))
    (try (go_step3; go_wp2_with (first | ((with_reducible refine gate_callee (f := 40) rfl ?_); refine gl_ (some 15) Try.func40 #[.string a0, .string (⟨#[47]⟩ : ByteArray)] ?_; (with_reducible refine (strings_CutPrefix.calls a0 (⟨#[47]⟩ : ByteArray) t123 true _ A3.out).mono ?_); rintro e w' ⟨rfl, ⟨nd, rfl⟩⟩; refine ⟨_, rfl, ?_⟩))))
    go_loopg [4, 6] k (fun kq v4 v6 w' => ∃ (x4_1 : ByteArray) (x6_1 : List ByteArray), v4 = .string x4_1 ∧ Aside0 (path_Split.l0 kq x4_1 x6_1 = some (r1, r2)) ∧ Aside0 (kq ≤ k) ∧ Aside0 (Kd.R Kd.string 9 w' w.heap.size (fun _ => True) v6 x6_1) ∧ Aside0 (Below w.heap.size w w'))
    case atStart => exact ⟨(t123), (([] : List ByteArray)), (by first | rfl | (simp; done) | (simp [*]; done)), H', ⟨Nat.le_refl _⟩, ⟨by first | exact Kd.R_nil _ _ _ _ _ | exact Kd.N_nil _ _ _ _ _ | exact Kd.V_nil _ _ _ _ _ | exact Kd.Q_nil _ _ _ _ _ | exact Kd.S_nil _ _ _ _ _⟩, ⟨bel_⟩⟩
    case round =>
      clear H'
      try clear c2
      try clear c2b0
      try clear c2b1
      try clear p2
      try clear c4
      try clear c5
      try clear c5b0
      try clear c5b1
      obtain ⟨x4_1, x6_1, rfl, HA, HK1, HO_6, HB⟩ := hrel
      cases gk with
      | zero => exact absurd HA.out (by simp [path_Split.l0])
      | succ k1 =>
        have H := HA.out
        clear HA
        simp only [path_Split.l0] at H
        replace H := Option.bind_eq_some_iff.mp H
        obtain ⟨⟨t125, t126, t127⟩, A60, H⟩ := H
        replace H : ((path_Name.f t125).bind fun t128 => (if t128 = true then (if x6_1.length < 8796093022208 then ((some (x6_1 ++ [t125] : List ByteArray)).bind fun y129 => (if t127 = true then (path_Split.l0 k1 t126 y129) else (some (y129, 0)))) else (none)) else (some (([] : List ByteArray), 10)))) = some (r1, r2) := H
        have A6 := Aside0.mk A60
        clear A60
        replace H := Option.bind_eq_some_iff.mp H
        obtain ⟨t128, A70, H⟩ := H
        replace H : (if t128 = true then (if x6_1.length < 8796093022208 then ((some (x6_1 ++ [t125] : List ByteArray)).bind fun y129 => (if t127 = true then (path_Split.l0 k1 t126 y129) else (some (y129, 0)))) else (none)) else (some (([] : List ByteArray), 10))) = some (r1, r2) := H
        have A7 := Aside0.mk A70
        clear A70
        by_cases c8 : t128 = true
        · subst c8
          have H1 : (if x6_1.length < 8796093022208 then ((some (x6_1 ++ [t125] : List ByteArray)).bind fun y129 => (if t127 = true then (path_Split.l0 k1 t126 y129) else (some (y129, 0)))) else (none)) = some (r1, r2) := by rw [if_pos rfl] at H; exact H
          clear H
          have H := H1
          clear H1
          by_cases c9 : x6_1.length < 8796093022208
          · rw [if_pos c9] at H
            have LMc9 := Aside0.mk c9
            clear c9
            obtain ⟨y129, hy129⟩ : ∃ y_ : List ByteArray, y_ = (x6_1 ++ [t125]) := ⟨_, rfl⟩
            replace H : (if t127 = true then (path_Split.l0 k1 t126 y129) else (some (y129, 0))) = some (r1, r2) := by first | (rw [hy129]; with_reducible exact H) | (have H2_ := (Option.bind_some _ _).symm.trans H; rw [hy129]; with_reducible exact H2_) | (have H2_ := (Option.bind_some _ _).symm.trans H; with_reducible exact H2_) | with_reducible exact H | (rw [hy129]; exact H) | exact H
            have Ny129 := Aside0.mk hy129
            clear hy129
            by_cases c10 : t127 = true
            · subst c10
              have H1 : (path_Split.l0 k1 t126 y129) = some (r1, r2) := by rw [if_pos rfl] at H; exact H
              clear H
              have H := H1
              clear H1
              have H' := Aside0.mk H
              clear H
              go_wp2_with (first | ((with_reducible refine gate_callee (f := 41) rfl ?_); refine gl_ (some 24) Try.func41 #[.string x4_1, .string (⟨#[47]⟩ : ByteArray)] ?_; (with_reducible refine (strings_Cut.calls x4_1 (⟨#[47]⟩ : ByteArray) t125 t126 true _ A6.out).mono ?_); rintro e w' ⟨rfl, ⟨nd, rfl⟩⟩; refine ⟨_, rfl, ?_⟩) | ((with_reducible refine gate_callee (f := 42) rfl ?_); refine gl_ (some 29) Try.func42 #[.string t125] ?_; (with_reducible refine (path_Name.calls t125 true _ A7.out).mono ?_); rintro e w' ⟨rfl, ⟨nd, rfl⟩⟩; refine ⟨_, rfl, ?_⟩) | ((with_reducible refine gate_builtin (b := .append) (xs := #[.tmp 31, .tmp 33]) rfl ?_); at_builtin; refine Kd.R_append Kd.string (w0 := w) w.heap.size rfl (.tmp 31) (.tmp 33) 23 9 (.string ⟨#[]⟩) 16 rfl Try.underlying23 info9 rfl (by decide) (by omega) u6 x6_1 t125 [.string t125] (fun _ => True) (fun _ => False) rfl rfl ?aP (fun _ hk => hk.elim) ?aF ?aO ?aB ?aS ?aL ?_; (case aP => exact rfl); (case aB => exact bel_); (case aF => exact (fun _ _ => trivial)); (case aO => exact (ra_ HO_6)); (case aS => exact (below_size bel_)); (case aL => have := LMc9.out; omega); intro v130 w11 ho hb hg hat; rw [← Ny129.out] at ho; have HO131 := Aside0.mk (ho); replace HB := Aside0.mk (hb); clear HO_6; clear ho hb hg hat))
              (try (refine wp_scope_post ?_; go_wp2_with (first | ((with_reducible refine gate_callee (f := 41) rfl ?_); refine gl_ (some 24) Try.func41 #[.string x4_1, .string (⟨#[47]⟩ : ByteArray)] ?_; (with_reducible refine (strings_Cut.calls x4_1 (⟨#[47]⟩ : ByteArray) t125 t126 true _ A6.out).mono ?_); rintro e w' ⟨rfl, ⟨nd, rfl⟩⟩; refine ⟨_, rfl, ?_⟩) | ((with_reducible refine gate_callee (f := 42) rfl ?_); refine gl_ (some 29) Try.func42 #[.string t125] ?_; (with_reducible refine (path_Name.calls t125 true _ A7.out).mono ?_); rintro e w' ⟨rfl, ⟨nd, rfl⟩⟩; refine ⟨_, rfl, ?_⟩) | ((with_reducible refine gate_builtin (b := .append) (xs := #[.tmp 31, .tmp 33]) rfl ?_); at_builtin; refine Kd.R_append Kd.string (w0 := w) w.heap.size rfl (.tmp 31) (.tmp 33) 23 9 (.string ⟨#[]⟩) 16 rfl Try.underlying23 info9 rfl (by decide) (by omega) u6 x6_1 t125 [.string t125] (fun _ => True) (fun _ => False) rfl rfl ?aP (fun _ hk => hk.elim) ?aF ?aO ?aB ?aS ?aL ?_; (case aP => exact rfl); (case aB => exact bel_); (case aF => exact (fun _ _ => trivial)); (case aO => exact (ra_ HO_6)); (case aS => exact (below_size bel_)); (case aL => have := LMc9.out; omega); intro v130 w11 ho hb hg hat; rw [← Ny129.out] at ho; have HO131 := Aside0.mk (ho); replace HB := Aside0.mk (hb); clear HO_6; clear ho hb hg hat))))
              (try (go_step3; go_wp2_with (first | ((with_reducible refine gate_callee (f := 41) rfl ?_); refine gl_ (some 24) Try.func41 #[.string x4_1, .string (⟨#[47]⟩ : ByteArray)] ?_; (with_reducible refine (strings_Cut.calls x4_1 (⟨#[47]⟩ : ByteArray) t125 t126 true _ A6.out).mono ?_); rintro e w' ⟨rfl, ⟨nd, rfl⟩⟩; refine ⟨_, rfl, ?_⟩) | ((with_reducible refine gate_callee (f := 42) rfl ?_); refine gl_ (some 29) Try.func42 #[.string t125] ?_; (with_reducible refine (path_Name.calls t125 true _ A7.out).mono ?_); rintro e w' ⟨rfl, ⟨nd, rfl⟩⟩; refine ⟨_, rfl, ?_⟩) | ((with_reducible refine gate_builtin (b := .append) (xs := #[.tmp 31, .tmp 33]) rfl ?_); at_builtin; refine Kd.R_append Kd.string (w0 := w) w.heap.size rfl (.tmp 31) (.tmp 33) 23 9 (.string ⟨#[]⟩) 16 rfl Try.underlying23 info9 rfl (by decide) (by omega) u6 x6_1 t125 [.string t125] (fun _ => True) (fun _ => False) rfl rfl ?aP (fun _ hk => hk.elim) ?aF ?aO ?aB ?aS ?aL ?_; (case aP => exact rfl); (case aB => exact bel_); (case aF => exact (fun _ _ => trivial)); (case aO => exact (ra_ HO_6)); (case aS => exact (below_size bel_)); (case aL => have := LMc9.out; omega); intro v130 w11 ho hb hg hat; rw [← Ny129.out] at ho; have HO131 := Aside0.mk (ho); replace HB := Aside0.mk (hb); clear HO_6; clear ho hb hg hat))))
              go_roundg k1
              case measure => have := HK1.out; omega
              case rel => exact ⟨(t126), (y129), (by first | rfl | (simp; done) | (simp [*]; done)), H', ⟨by have := HK1.out; omega⟩, ⟨ra_ HO131⟩, ⟨bel_⟩⟩
            replace c10 := Bool.eq_false_iff.mpr c10
            subst c10
            have H1 : (some (y129, 0)) = some (r1, r2) := by rw [if_neg (show ¬ (false = true) by decide)] at H; exact H
            clear H
            have H := H1
            clear H1
            simp only [Option.some.injEq, Prod.mk.injEq] at H
            obtain ⟨rfl, rfl⟩ := H
            go_wp2_with (first | ((with_reducible refine gate_callee (f := 41) rfl ?_); refine gl_ (some 24) Try.func41 #[.string x4_1, .string (⟨#[47]⟩ : ByteArray)] ?_; (with_reducible refine (strings_Cut.calls x4_1 (⟨#[47]⟩ : ByteArray) t125 t126 false _ A6.out).mono ?_); rintro e w' ⟨rfl, ⟨nd, rfl⟩⟩; refine ⟨_, rfl, ?_⟩) | ((with_reducible refine gate_callee (f := 42) rfl ?_); refine gl_ (some 29) Try.func42 #[.string t125] ?_; (with_reducible refine (path_Name.calls t125 true _ A7.out).mono ?_); rintro e w' ⟨rfl, ⟨nd, rfl⟩⟩; refine ⟨_, rfl, ?_⟩) | ((with_reducible refine gate_builtin (b := .append) (xs := #[.tmp 31, .tmp 33]) rfl ?_); at_builtin; refine Kd.R_append Kd.string (w0 := w) w.heap.size rfl (.tmp 31) (.tmp 33) 23 9 (.string ⟨#[]⟩) 16 rfl Try.underlying23 info9 rfl (by decide) (by omega) u6 x6_1 t125 [.string t125] (fun _ => True) (fun _ => False) rfl rfl ?aP (fun _ hk => hk.elim) ?aF ?aO ?aB ?aS ?aL ?_; (case aP => exact rfl); (case aB => exact bel_); (case aF => exact (fun _ _ => trivial)); (case aO => exact (ra_ HO_6)); (case aS => exact (below_size bel_)); (case aL => have := LMc9.out; omega); intro v130 w12 ho hb hg hat; rw [← Ny129.out] at ho; have HO131 := Aside0.mk (ho); replace HB := Aside0.mk (hb); clear HO_6; clear ho hb hg hat))
            (try (refine wp_scope_post ?_; go_wp2_with (first | ((with_reducible refine gate_callee (f := 41) rfl ?_); refine gl_ (some 24) Try.func41 #[.string x4_1, .string (⟨#[47]⟩ : ByteArray)] ?_; (with_reducible refine (strings_Cut.calls x4_1 (⟨#[47]⟩ : ByteArray) t125 t126 false _ A6.out).mono ?_); rintro e w' ⟨rfl, ⟨nd, rfl⟩⟩; refine ⟨_, rfl, ?_⟩) | ((with_reducible refine gate_callee (f := 42) rfl ?_); refine gl_ (some 29) Try.func42 #[.string t125] ?_; (with_reducible refine (path_Name.calls t125 true _ A7.out).mono ?_); rintro e w' ⟨rfl, ⟨nd, rfl⟩⟩; refine ⟨_, rfl, ?_⟩) | ((with_reducible refine gate_builtin (b := .append) (xs := #[.tmp 31, .tmp 33]) rfl ?_); at_builtin; refine Kd.R_append Kd.string (w0 := w) w.heap.size rfl (.tmp 31) (.tmp 33) 23 9 (.string ⟨#[]⟩) 16 rfl Try.underlying23 info9 rfl (by decide) (by omega) u6 x6_1 t125 [.string t125] (fun _ => True) (fun _ => False) rfl rfl ?aP (fun _ hk => hk.elim) ?aF ?aO ?aB ?aS ?aL ?_; (case aP => exact rfl); (case aB => exact bel_); (case aF => exact (fun _ _ => trivial)); (case aO => exact (ra_ HO_6)); (case aS => exact (below_size bel_)); (case aL => have := LMc9.out; omega); intro v130 w12 ho hb hg hat; rw [← Ny129.out] at ho; have HO131 := Aside0.mk (ho); replace HB := Aside0.mk (hb); clear HO_6; clear ho hb hg hat))))
            (try (go_step3; go_wp2_with (first | ((with_reducible refine gate_callee (f := 41) rfl ?_); refine gl_ (some 24) Try.func41 #[.string x4_1, .string (⟨#[47]⟩ : ByteArray)] ?_; (with_reducible refine (strings_Cut.calls x4_1 (⟨#[47]⟩ : ByteArray) t125 t126 false _ A6.out).mono ?_); rintro e w' ⟨rfl, ⟨nd, rfl⟩⟩; refine ⟨_, rfl, ?_⟩) | ((with_reducible refine gate_callee (f := 42) rfl ?_); refine gl_ (some 29) Try.func42 #[.string t125] ?_; (with_reducible refine (path_Name.calls t125 true _ A7.out).mono ?_); rintro e w' ⟨rfl, ⟨nd, rfl⟩⟩; refine ⟨_, rfl, ?_⟩) | ((with_reducible refine gate_builtin (b := .append) (xs := #[.tmp 31, .tmp 33]) rfl ?_); at_builtin; refine Kd.R_append Kd.string (w0 := w) w.heap.size rfl (.tmp 31) (.tmp 33) 23 9 (.string ⟨#[]⟩) 16 rfl Try.underlying23 info9 rfl (by decide) (by omega) u6 x6_1 t125 [.string t125] (fun _ => True) (fun _ => False) rfl rfl ?aP (fun _ hk => hk.elim) ?aF ?aO ?aB ?aS ?aL ?_; (case aP => exact rfl); (case aB => exact bel_); (case aF => exact (fun _ _ => trivial)); (case aO => exact (ra_ HO_6)); (case aS => exact (below_size bel_)); (case aL => have := LMc9.out; omega); intro v130 w12 ho hb hg hat; rw [← Ny129.out] at ho; have HO131 := Aside0.mk (ho); replace HB := Aside0.mk (hb); clear HO_6; clear ho hb hg hat))))
            go_ret2
            exact ⟨_, by first | rfl | (simp [errW_none, errW_some] <;> rfl) | (simp [*, errW_none, errW_some] <;> rfl), by (with_reducible repeat (first | apply Kd.R_alloc | apply Kd.R_drewN | apply Kd.R_drew)); exact HO131.out, bel_⟩
          rw [if_neg c9] at H
          exact absurd H (by simp)
        replace c8 := Bool.eq_false_iff.mpr c8
        subst c8
        have H1 : (some (([] : List ByteArray), 10)) = some (r1, r2) := by rw [if_neg (show ¬ (false = true) by decide)] at H; exact H
        clear H
        have H := H1
        clear H1
        simp only [Option.some.injEq, Prod.mk.injEq] at H
        obtain ⟨rfl, rfl⟩ := H
        go_wp2_with (first | ((with_reducible refine gate_callee (f := 41) rfl ?_); refine gl_ (some 24) Try.func41 #[.string x4_1, .string (⟨#[47]⟩ : ByteArray)] ?_; (with_reducible refine (strings_Cut.calls x4_1 (⟨#[47]⟩ : ByteArray) t125 t126 t127 _ A6.out).mono ?_); rintro e w' ⟨rfl, ⟨nd, rfl⟩⟩; refine ⟨_, rfl, ?_⟩) | ((with_reducible refine gate_callee (f := 42) rfl ?_); refine gl_ (some 29) Try.func42 #[.string t125] ?_; (with_reducible refine (path_Name.calls t125 false _ A7.out).mono ?_); rintro e w' ⟨rfl, ⟨nd, rfl⟩⟩; refine ⟨_, rfl, ?_⟩))
        (try (refine wp_scope_post ?_; go_wp2_with (first | ((with_reducible refine gate_callee (f := 41) rfl ?_); refine gl_ (some 24) Try.func41 #[.string x4_1, .string (⟨#[47]⟩ : ByteArray)] ?_; (with_reducible refine (strings_Cut.calls x4_1 (⟨#[47]⟩ : ByteArray) t125 t126 t127 _ A6.out).mono ?_); rintro e w' ⟨rfl, ⟨nd, rfl⟩⟩; refine ⟨_, rfl, ?_⟩) | ((with_reducible refine gate_callee (f := 42) rfl ?_); refine gl_ (some 29) Try.func42 #[.string t125] ?_; (with_reducible refine (path_Name.calls t125 false _ A7.out).mono ?_); rintro e w' ⟨rfl, ⟨nd, rfl⟩⟩; refine ⟨_, rfl, ?_⟩))))
        (try (go_step3; go_wp2_with (first | ((with_reducible refine gate_callee (f := 41) rfl ?_); refine gl_ (some 24) Try.func41 #[.string x4_1, .string (⟨#[47]⟩ : ByteArray)] ?_; (with_reducible refine (strings_Cut.calls x4_1 (⟨#[47]⟩ : ByteArray) t125 t126 t127 _ A6.out).mono ?_); rintro e w' ⟨rfl, ⟨nd, rfl⟩⟩; refine ⟨_, rfl, ?_⟩) | ((with_reducible refine gate_callee (f := 42) rfl ?_); refine gl_ (some 29) Try.func42 #[.string t125] ?_; (with_reducible refine (path_Name.calls t125 false _ A7.out).mono ?_); rintro e w' ⟨rfl, ⟨nd, rfl⟩⟩; refine ⟨_, rfl, ?_⟩))))
        go_ret2
        exact ⟨_, by first | rfl | (simp [errW_none, errW_some] <;> rfl) | (simp [*, errW_none, errW_some] <;> rfl), by first | exact Kd.R_nil _ _ _ _ _ | exact Kd.N_nil _ _ _ _ _ | exact Kd.V_nil _ _ _ _ _ | exact Kd.Q_nil _ _ _ _ _ | exact Kd.S_nil _ _ _ _ _, bel_⟩
  replace c4 := Bool.eq_false_iff.mpr c4
  subst c4
  have H1 : (some (([] : List ByteArray), 10)) = some (r1, r2) := by rw [if_neg (show ¬ (false = true) by decide)] at H; exact H
  clear H
  have H := H1
  clear H1
  simp only [Option.some.injEq, Prod.mk.injEq] at H
  obtain ⟨rfl, rfl⟩ := H
  go_enter Try.func25, Try.ntmps25
  go_wp2_with (first | ((with_reducible refine gate_callee (f := 40) rfl ?_); refine gl_ (some 15) Try.func40 #[.string a0, .string (⟨#[47]⟩ : ByteArray)] ?_; (with_reducible refine (strings_CutPrefix.calls a0 (⟨#[47]⟩ : ByteArray) t123 false _ A3.out).mono ?_); rintro e w' ⟨rfl, ⟨nd, rfl⟩⟩; refine ⟨_, rfl, ?_⟩))
  (try (refine wp_scope_post ?_; go_wp2_with (first | ((with_reducible refine gate_callee (f := 40) rfl ?_); refine gl_ (some 15) Try.func40 #[.string a0, .string (⟨#[47]⟩ : ByteArray)] ?_; (with_reducible refine (strings_CutPrefix.calls a0 (⟨#[47]⟩ : ByteArray) t123 false _ A3.out).mono ?_); rintro e w' ⟨rfl, ⟨nd, rfl⟩⟩; refine ⟨_, rfl, ?_⟩))))
  (try (go_step3; go_wp2_with (first | ((with_reducible refine gate_callee (f := 40) rfl ?_); refine gl_ (some 15) Try.func40 #[.string a0, .string (⟨#[47]⟩ : ByteArray)] ?_; (with_reducible refine (strings_CutPrefix.calls a0 (⟨#[47]⟩ : ByteArray) t123 false _ A3.out).mono ?_); rintro e w' ⟨rfl, ⟨nd, rfl⟩⟩; refine ⟨_, rfl, ?_⟩))))
  go_ret2
  exact ⟨_, by first | rfl | (simp [errW_none, errW_some] <;> rfl) | (simp [*, errW_none, errW_some] <;> rfl), by first | exact Kd.R_nil _ _ _ _ _ | exact Kd.N_nil _ _ _ _ _ | exact Kd.V_nil _ _ _ _ _ | exact Kd.Q_nil _ _ _ _ _ | exact Kd.S_nil _ _ _ _ _, bel_⟩

end Go.Proofs.Ytpnmajblhgnkoaa.Z
end

section
/- dirs: (*Volume).Walk (printed by genwalk.py). -/
namespace Go.Proofs.Ytpnmajblhgnkoaa.Z
open Go.RowKit Go.Proofs.YtpnmajblhgnkoaaW.PrintWords Go.Proofs.YtpnmajblhgnkoaaW.PrintLast Go.Proofs.YtpnmajblhgnkoaaW.PrintMore
set_option linter.unusedVariables false
set_option linter.unusedSimpArgs false
attribute [local go_sem ↓] Go.wp_at_zero Go.wp_at_succ
theorem C_tail {w : World} {b o : Nat} {x : ByteArray} {r : List ByteArray} (h : Kd.C Kd.string w (some ⟨b, o, none⟩) (x :: r).length (x :: r)) : w.cell? ⟨b, o, none⟩ = some (.string x) ∧ Kd.C Kd.string w (some ⟨b, o + 1, none⟩) r.length r := by
  obtain ⟨hl, hmx, hc0⟩ := h
  obtain ⟨ad, had, hc⟩ := hc0 (by simp)
  obtain rfl := Option.some.inj had
  have hcell : ∀ j y, (x :: r)[j]? = some y → w.cell? ⟨b, o + j, none⟩ = some (.string y) := by
    intro j y hy
    obtain ⟨c, hs, hr, hcell⟩ := hc j y hy
    have hr' : c = [.string y] := hr
    subst hr'
    have := hcell 0 _ rfl
    rw [show (Kd.string).sz = 1 from rfl, show j * 1 + 0 = j by omega, add_at] at this
    exact this
  refine ⟨hcell 0 x rfl, rfl, by simp at hmx; omega, fun _ => ⟨_, rfl, fun j y hy => ⟨[.string y], rfl, rfl, fun i u hu => ?_⟩⟩⟩
  have h1 := hcell (j + 1) y (by simpa using hy)
  cases i with
  | zero =>
    obtain rfl : (.string y : Value) = u := by simpa using hu
    rw [show (Kd.string).sz = 1 from rfl, show j * 1 + 0 = j by omega, add_at, show o + 1 + j = o + (j + 1) by omega]
    exact h1
  | succ i => simp at hu
theorem C_none0 {w : World} (A : Option Addr) : Kd.C Kd.string w A ([] : List ByteArray).length [] := ⟨rfl, by simp, fun h => absurd h (Nat.lt_irrefl 0)⟩
set_option maxRecDepth 100000 in
theorem run_tail (b o cn m : Nat) (hm : m + 1 ≤ cn) (w : World) : (Instr.sliceAt 23 (.slice (some ⟨b, o, none⟩) (m + 1) cn) (some (.int .i64 1)) none none).run Try.prog w = .ok (.slice (if cn = 1 then some ⟨b, o, none⟩ else some ⟨b, o + 1, none⟩) m (cn - 1)) w := by
  have p1 := eq_true (show (1 : Int) ≤ (m : Int) + 1 by omega)
  have p2 := eq_true (show (m : Int) + 1 ≤ (cn : Int) by omega)
  by_cases h : cn = 1
  · subst h
    obtain rfl : m = 0 := by omega
    go_simp
  · have h2 := eq_false h
    go_simp
theorem tail_event {ops : Array Oper} {rest : List Oper} {o : Oper} {a : Act} {Q : Exit → Act → World → Prop} {W : World} (hg : o.guard = none) (x : Operand) (hop : o.op = .slice 23 x (some (.const (.int .i64 1))) none none) {b off cn m : Nat} (hx : a.eval x = .slice (some ⟨b, off, none⟩) (m + 1) cn) (hm : m + 1 ≤ cn)
    (h : ∀ A', A' = (if cn = 1 then some ⟨b, off, none⟩ else some ⟨b, off + 1, none⟩) → wpList Try.prog ops Q rest (a.put o.dst (.slice A' m (cn - 1))) W) : wpList Try.prog ops Q (o :: rest) a W := by
  refine Kd.event_run (v := .slice (if cn = 1 then some ⟨b, off, none⟩ else some ⟨b, off + 1, none⟩) m (cn - 1)) (w1 := W) hg ?_ (h _ rfl)
  have hr := run_tail b off cn m hm W
  have he : a.eval (.const (.int .i64 1)) = .int .i64 1 := rfl
  unfold execOp
  simp [hop, hx, he, hr]
theorem C_tail2 {w : World} {A' : Option Addr} {b o cn : Nat} {r : List ByteArray} (h : Kd.C Kd.string w (some ⟨b, o + 1, none⟩) r.length r) (hA : A' = (if cn = 1 then some ⟨b, o, none⟩ else some ⟨b, o + 1, none⟩)) (hc : r.length + 1 ≤ cn) : Kd.C Kd.string w A' r.length r := by
  subst hA
  split
  · cases r with
    | nil => exact C_none0 _
    | cons y r => simp at hc; omega
  · exact h
theorem litv_event {P : Program} {ops : Array Oper} {rest : List Oper} {o : Oper} {a : Act} {Q : Exit → Act → World → Prop} {W : World} {cs : Array Value} {t : TypeId} {n : Nat} (hgd : o.guard = none) (hrun : (execOp a.eval o).run P W = .ok (.value (.slice (some ⟨W.heap.size, 0, none⟩) n n)) (W.alloc (.cells cs t (0, 0))))
    (h : ∀ g, g = W.heap.size → ∀ w1, w1.heap[g]? = some (.cells cs t (0, 0)) → Below W.heap.size W w1 → wpList P ops Q rest (a.put o.dst (.slice (some ⟨g, 0, none⟩) n n)) w1) : wpList P ops Q (o :: rest) a W :=
  Kd.event_run hgd hrun (h _ rfl _ (blk_new W _) (below_alloc (Below.refl _ _) _))
/-- Going along names. -/
def walkL (l : List VIT) (s : VS) (follow : Bool) : Nat → List ByteArray → Int → Int → Option (Int × Int)
  | 0, _, _, _ => none
  | k + 1, [], a, _ => some (a, 0)
  | k + 1, x :: r, a, ln => if ((s.ino a).getD zI).kd = 1 then (entryF k l a x).bind fun t => if t = 0 then some (0, 5) else
      if ((s.ino t).getD zI).kd = 3 ∧ ¬ (r = [] ∧ follow = false) then
        (if 8 < ln + 1 then some (0, 15) else (path_Split.f k ((s.ino t).getD zI).tg).bind fun p => if p.2 = 0 then (if p.1.length + r.length ≤ 10995116277760 then walkL l s follow k (p.1 ++ r) 1 (ln + 1) else none) else some (0, p.2))
      else walkL l s follow k r t ln else some (0, 12)
theorem walkL.mono (l : List VIT) (s : VS) (follow : Bool) : ∀ (k : Nat) (ns : List ByteArray) (a ln : Int), LeO (walkL l s follow k ns a ln) (walkL l s follow (k + 1) ns a ln)
  | 0, ns, a, ln => fun r h => by simp [walkL] at h
  | k + 1, [], a, ln => LeO.refl _
  | k + 1, x :: r, a, ln => by
    unfold walkL
    exact LeO.ite (LeO.bind (entryF.mono _ _ _ _) (fun _ => LeO.ite (LeO.refl _) (LeO.ite (LeO.ite (LeO.refl _) (LeO.bind (path_Split.mono _ _) (fun _ => LeO.ite (LeO.ite (walkL.mono l s follow k _ _ _) (LeO.none _)) (LeO.refl _)))) (walkL.mono l s follow k _ _ _)))) (LeO.refl _)
set_option maxRecDepth 100000 in
set_option maxHeartbeats 12800000 in
theorem walk_calls (k : Nat) (g base : Nat) (A : Option Addr) (c : Nat) (l : List VIT) (sm : Int) (s : VS) (An : Option Addr) (cn : Nat) (names : List ByteArray) (follow : Bool) (r1 r2 : Int) (w : World) (hV : VolOf w g base A c l sm s) (hC : Kd.C k61 w A l.length l) (hc : l.length ≤ c) (hN : Kd.C Kd.string w An names.length names) (hcn : names.length ≤ cn) (h : walkL l s follow k names 1 0 = some (r1, r2)) :
    Calls Try.prog 16 #[.pointer (some ⟨g, 0, none⟩), .slice An names.length cn, .bool follow] w fun e w' => e = .returned (.tuple #[.int .u32 r1, .int .i64 r2]) ∧ Below w.heap.size w w' := by
  obtain ⟨va, bi, bu, hG, hA, hI, _⟩ := id hV
  have hnot : ∀ (x : Bool) (w : World), (Op.unary .not (.bool x)).run Try.prog w = .ok (.bool (!x)) w := fun _ _ => rfl
  have HV := Aside0.mk hV
  have HC := Aside0.mk hC
  have HP := Aside0.mk hc
  have HNN := Aside0.mk hN
  have HCN := Aside0.mk hcn
  have H := Aside0.mk h
  have GB := Aside0.mk hG
  have MI := Aside0.mk hI
  clear hV hC hc hN hcn h hG hA hI
  go_enter Try.func16, Try.ntmps16
  go_wp2
  go_loopg [1, 8, 9] k (fun kq vn va vl wr => ∃ (An : Option Addr) (cn : Nat) (ns : List ByteArray) (a ln : Int), vn = .slice An ns.length cn ∧ va = .int .u32 a ∧ vl = .int .i64 ln ∧ Aside0 (walkL l s follow kq ns a ln = some (r1, r2)) ∧ Aside0 (kq ≤ k) ∧ Aside0 (0 ≤ a ∧ a < 4294967296) ∧ Aside0 (0 ≤ ln ∧ ln ≤ 8) ∧ Aside0 (ns.length ≤ cn) ∧ Aside0 (Kd.C Kd.string wr An ns.length ns) ∧ Aside0 (Below w.heap.size w wr))
  case atStart => exact ⟨An, cn, names, 1, 0, rfl, rfl, rfl, H, ⟨Nat.le_refl _⟩, ⟨by decide⟩, ⟨by decide⟩, HCN, HNN, ⟨Below.refl _ _⟩⟩
  case round =>
    obtain ⟨An, cn, ns, a, ln, rfl, rfl, rfl, HA, HK1, HAT, HLN, HCP, HNS, HB⟩ := hrel
    cases gk with
    | zero => exact absurd HA.out (by simp [walkL])
    | succ k1 =>
      cases ns with
      | nil =>
        have hR := HA.out
        rw [walkL] at hR
        have hR2 := Option.some.inj hR
        simp only [Prod.mk.injEq] at hR2
        obtain ⟨rfl, rfl⟩ := hR2
        clear hR HA
        go_wp2
        go_ret2
        exact ⟨rfl, HB.out⟩
      | cons x r =>
        have hR := HA.out
        rw [walkL] at hR
        obtain ⟨b_, o_, hAn, _, _⟩ := C_strings HNS.out (by simp)
        subst hAn
        obtain ⟨z0, hnr⟩ := C_tail HNS.out
        have HNR := Aside0.mk hnr
        have q6 : wr.cell? ⟨g, 6, none⟩ = some (.map (some bi)) := (blk_cell (blk_below GB.out HB.out) 6).trans rfl
        obtain ⟨n1, hn1⟩ : ∃ n1, n1 = (s.ino a).getD zI := ⟨_, rfl⟩
        rw [← hn1] at hR
        have HN1 := Aside0.mk hn1
        have lk := lookN (MI.out.below HB.out) HAT.out HN1.out
        have fl := fieldI n1
        have p1 := eq_true (show (1 : Int) ≤ (r.length : Int) + 1 by omega)
        have p2 := eq_true (show (r.length : Int) + 1 ≤ (cn : Int) by have := HCP.out; simp at this; omega)
        have e_len : decide ((0 : Int) < (r.length : Int) + 1) = true := decide_eq_true (by omega)
        clear hn1 hnr HA
        by_cases k0 : n1.kd = 1
        · rw [if_pos k0] at hR
          have e0 : (n1.kd != 1) = false := bne_eq_false_iff_eq.2 k0
          obtain ⟨tt, ht, hR⟩ := Option.bind_eq_some_iff.mp hR
          have HE := Aside0.mk ht
          have HTW := Aside0.mk (entry_wf ht)
          obtain ⟨n2, hn2⟩ : ∃ n2, n2 = (s.ino tt).getD zI := ⟨_, rfl⟩
          rw [← hn2] at hR
          have HN2 := Aside0.mk hn2
          have HRR := Aside0.mk hR
          clear hR ht hn2 k0
          by_cases h0 : tt = 0
          · have e1 : (tt == 0) = true := beq_iff_eq.2 h0
            have hR2 := HRR.out
            rw [if_pos h0] at hR2
            have hR3 := Option.some.inj hR2
            simp only [Prod.mk.injEq] at hR3
            obtain ⟨rfl, rfl⟩ := hR3
            clear hR2 h0
            go_wp2_with (first | (go_at_call 24; refine (entry_calls k1 g base A c l sm s a x tt _ (HV.out.below HB.out) (Kd.C_below HC.out HB.out) HP.out HE.out).mono ?_; rintro e w3 ⟨rfl, hb3⟩; have B3 := Aside0.mk (below_step HB.out hb3); have D3 := Aside0.mk hb3; have q6 : w3.cell? ⟨g, 6, none⟩ = some (.map (some bi)) := (blk_cell (blk_below GB.out B3.out) 6).trans rfl; have lk := lookN (MI.out.below B3.out) HTW.out HN2.out; clear hb3 z0))
            go_ret2
            exact ⟨rfl, B3.out⟩
          · have e1 : (tt == 0) = false := beq_eq_false_iff_ne.2 h0
            have hR2 := HRR.out
            rw [if_neg h0] at hR2
            clear h0 HRR hR
            by_cases k3 : n2.kd = 3
            · have e3 : (n2.kd != 3) = false := bne_eq_false_iff_eq.2 k3
              by_cases hr : r = []
              · subst hr
                cases follow with
                | false =>
                  rw [if_neg (fun h => h.2 ⟨rfl, rfl⟩)] at hR2
                  have HRR := Aside0.mk hR2
                  clear hR2 k3
                  go_wp2_with (first
                    | (go_at_call 24; refine (entry_calls k1 g base A c l sm s a x tt _ (HV.out.below HB.out) (Kd.C_below HC.out HB.out) HP.out HE.out).mono ?_; rintro e w3 ⟨rfl, hb3⟩; have B3 := Aside0.mk (below_step HB.out hb3); have D3 := Aside0.mk hb3; have q6 : w3.cell? ⟨g, 6, none⟩ = some (.map (some bi)) := (blk_cell (blk_below GB.out B3.out) 6).trans rfl; have lk := lookN (MI.out.below B3.out) HTW.out HN2.out; clear hb3 z0)
                    | ((with_reducible refine gate_dst (N := 33) rfl ?_); refine tail_event rfl (.tmp 32) rfl (b := b_) (off := o_) (cn := cn) (m := 0) rfl (by have := HCP.out; simpa using this) ?_; intro A' hA'; have HT3 := Aside0.mk (C_tail2 (Kd.C_below HNR.out D3.out) hA' (by have := HCP.out; simpa using this)); clear hA')
                    | ((with_reducible refine gate_dst (N := 10) rfl ?_); refine var_event (N := 10) (T := 37) (n := 5) (zc := #[.int .u8 0, .int .u16 0, .int .u32 0, .int .u32 0, .string ⟨#[]⟩]) (cs := #[.int .u8 n2.kd, .int .u16 n2.md, .int .u32 n2.ln, .int .u32 n2.sz, .string n2.tg]) rfl rfl rfl (.tmp 39) rfl rfl ?hr (by kernel_rfl) rfl rfl rfl ?hx ?hN ?_; (case hx => intro p_; rfl); (case hN => intro p_; rfl); (case hr => first | (go_simp; done) | (go_simp; rfl)); intro gn hgn w4 hx4 hb4; have Z4 := Aside0.mk hx4; have D4 := Aside0.mk hb4; have B4 := Aside0.mk (below_step B3.out hb4); have y0 : w4.cell? ⟨gn, 0, none⟩ = some (.int .u8 n2.kd) := (blk_cell Z4.out 0).trans rfl; have y4 : w4.cell? ⟨gn, 4, none⟩ = some (.string n2.tg) := (blk_cell Z4.out 4).trans rfl; clear hx4 hb4 hgn q6 lk))
                  go_roundg k1
                  case measure => have := HK1.out; omega
                  case rel => exact ⟨A', cn - 1, [], tt, ln, rfl, rfl, rfl, HRR, ⟨by have := HK1.out; omega⟩, HTW, HLN, ⟨by first | (simp; done) | (have := HCP.out; simp at this; omega)⟩, ⟨Kd.C_below HT3.out D4.out⟩, B4⟩
                | true =>
                  rw [if_pos ⟨k3, fun h => by cases h.2⟩] at hR2
                  clear k3
                  have ew : wrap64 (ln + 1) = ln + 1 := by have := HLN.out; unfold wrap64; omega
                  by_cases k8 : 8 < ln + 1
                  · rw [if_pos k8] at hR2
                    have e8 : decide (8 < ln + 1) = true := decide_eq_true k8
                    have hR3 := Option.some.inj hR2
                    simp only [Prod.mk.injEq] at hR3
                    obtain ⟨rfl, rfl⟩ := hR3
                    clear hR2 k8
                    go_wp2_with (first
                      | (go_at_call 24; refine (entry_calls k1 g base A c l sm s a x tt _ (HV.out.below HB.out) (Kd.C_below HC.out HB.out) HP.out HE.out).mono ?_; rintro e w3 ⟨rfl, hb3⟩; have B3 := Aside0.mk (below_step HB.out hb3); have D3 := Aside0.mk hb3; have q6 : w3.cell? ⟨g, 6, none⟩ = some (.map (some bi)) := (blk_cell (blk_below GB.out B3.out) 6).trans rfl; have lk := lookN (MI.out.below B3.out) HTW.out HN2.out; clear hb3 z0)
                      | ((with_reducible refine gate_dst (N := 33) rfl ?_); refine tail_event rfl (.tmp 32) rfl (b := b_) (off := o_) (cn := cn) (m := 0) rfl (by have := HCP.out; simpa using this) ?_; intro A' hA'; have HT3 := Aside0.mk (C_tail2 (Kd.C_below HNR.out D3.out) hA' (by have := HCP.out; simpa using this)); clear hA')
                      | ((with_reducible refine gate_dst (N := 10) rfl ?_); refine var_event (N := 10) (T := 37) (n := 5) (zc := #[.int .u8 0, .int .u16 0, .int .u32 0, .int .u32 0, .string ⟨#[]⟩]) (cs := #[.int .u8 n2.kd, .int .u16 n2.md, .int .u32 n2.ln, .int .u32 n2.sz, .string n2.tg]) rfl rfl rfl (.tmp 39) rfl rfl ?hr (by kernel_rfl) rfl rfl rfl ?hx ?hN ?_; (case hx => intro p_; rfl); (case hN => intro p_; rfl); (case hr => first | (go_simp; done) | (go_simp; rfl)); intro gn hgn w4 hx4 hb4; have Z4 := Aside0.mk hx4; have D4 := Aside0.mk hb4; have B4 := Aside0.mk (below_step B3.out hb4); have y0 : w4.cell? ⟨gn, 0, none⟩ = some (.int .u8 n2.kd) := (blk_cell Z4.out 0).trans rfl; have y4 : w4.cell? ⟨gn, 4, none⟩ = some (.string n2.tg) := (blk_cell Z4.out 4).trans rfl; clear hx4 hb4 hgn q6 lk))
                    go_ret2
                    exact ⟨rfl, B4.out⟩
                  · rw [if_neg k8] at hR2
                    have e8 : decide (8 < ln + 1) = false := decide_eq_false k8
                    obtain ⟨⟨p1, wp⟩, hp, hR2⟩ := Option.bind_eq_some_iff.mp hR2
                    have HS := Aside0.mk hp
                    have HL8 := Aside0.mk k8
                    clear hp k8
                    by_cases k9 : wp = 0
                    · rw [if_pos k9] at hR2
                      subst k9
                      split at hR2
                      case isFalse => cases hR2
                      case isTrue hql =>
                      have HQL := Aside0.mk hql
                      have HRR := Aside0.mk hR2
                      clear hR2 hql
                      go_wp2_with (first
                        | (go_at_call 24; refine (entry_calls k1 g base A c l sm s a x tt _ (HV.out.below HB.out) (Kd.C_below HC.out HB.out) HP.out HE.out).mono ?_; rintro e w3 ⟨rfl, hb3⟩; have B3 := Aside0.mk (below_step HB.out hb3); have D3 := Aside0.mk hb3; have q6 : w3.cell? ⟨g, 6, none⟩ = some (.map (some bi)) := (blk_cell (blk_below GB.out B3.out) 6).trans rfl; have lk := lookN (MI.out.below B3.out) HTW.out HN2.out; clear hb3 z0)
                        | ((with_reducible refine gate_dst (N := 33) rfl ?_); refine tail_event rfl (.tmp 32) rfl (b := b_) (off := o_) (cn := cn) (m := 0) rfl (by have := HCP.out; simpa using this) ?_; intro A' hA'; have HT3 := Aside0.mk (C_tail2 (Kd.C_below HNR.out D3.out) hA' (by have := HCP.out; simpa using this)); clear hA')
                        | ((with_reducible refine gate_dst (N := 10) rfl ?_); refine var_event (N := 10) (T := 37) (n := 5) (zc := #[.int .u8 0, .int .u16 0, .int .u32 0, .int .u32 0, .string ⟨#[]⟩]) (cs := #[.int .u8 n2.kd, .int .u16 n2.md, .int .u32 n2.ln, .int .u32 n2.sz, .string n2.tg]) rfl rfl rfl (.tmp 39) rfl rfl ?hr (by kernel_rfl) rfl rfl rfl ?hx ?hN ?_; (case hx => intro p_; rfl); (case hN => intro p_; rfl); (case hr => first | (go_simp; done) | (go_simp; rfl)); intro gn hgn w4 hx4 hb4; have Z4 := Aside0.mk hx4; have D4 := Aside0.mk hb4; have B4 := Aside0.mk (below_step B3.out hb4); have y0 : w4.cell? ⟨gn, 0, none⟩ = some (.int .u8 n2.kd) := (blk_cell Z4.out 0).trans rfl; have y4 : w4.cell? ⟨gn, 4, none⟩ = some (.string n2.tg) := (blk_cell Z4.out 4).trans rfl; clear hx4 hb4 hgn q6 lk)
                        | (go_at_call 25; refine (path_Split.calls k1 n2.tg p1 0 _ HS.out).mono ?_; rintro e w5 ⟨v5, rfl, ho5, hb5⟩; have R5 := Aside0.mk ho5; have D45 := Aside0.mk (below_step D4.out hb5); have B5 := Aside0.mk (below_step B4.out hb5); obtain ⟨A5, c5, rfl⟩ := Kd.R_slice ho5; clear ho5 hb5 y0 y4)
                        | ((with_reducible refine gate_dst (N := 67) rfl ?_); refine litv_event (cs := #[.slice A5 p1.length c5, .slice A' 0 (cn - 1)]) (t := 23) (n := 2) rfl ?hr ?_; (case hr => first | (go_simp; done) | (go_simp; rfl)); intro gq hgq w6 hx6 hb6; have Q6 := Aside0.mk hx6; have D6 := Aside0.mk hb6; have B6 := Aside0.mk (below_step B5.out hb6); clear hx6 hb6 hgq)
                        | (go_at_call 26; refine (concat_calls gq 23 A5 A' c5 (cn - 1) p1 [] _ Q6.out (Kd.C_below (Kd.R_reads' R5.out).2.2 D6.out) (Kd.C_below (Kd.C_below HT3.out D45.out) D6.out) HQL.out).mono ?_; rintro e w7 ⟨v7, rfl, ho7, hb7⟩; have R7 := Aside0.mk ho7; have B7 := Aside0.mk (below_step B6.out hb7); obtain ⟨A7, c7, hv7⟩ := Kd.R_slice ho7; obtain ⟨n7, hn7⟩ : ∃ n7, n7 = (p1 ++ []).length := ⟨_, rfl⟩; rw [← hn7] at hv7; subst hv7; have N7 := Aside0.mk hn7; clear ho7 hb7 hn7))
                      go_roundg k1
                      case measure => have := HK1.out; omega
                      case rel => exact ⟨A7, c7, p1 ++ [], 1, ln + 1, (by rw [N7.out]), rfl, rfl, HRR, ⟨by have := HK1.out; omega⟩, ⟨by decide⟩, ⟨by have := HLN.out; have := HL8.out; omega⟩, ⟨by rw [← N7.out]; exact (Kd.R_reads' R7.out).2.1⟩, ⟨by have := (Kd.R_reads' R7.out).2.2; first | exact this | (rw [N7.out] at this; exact this)⟩, B7⟩
                    · rw [if_neg k9] at hR2
                      have e9 : (wp != 0) = true := bne_iff_ne.2 k9
                      have hR3 := Option.some.inj hR2
                      simp only [Prod.mk.injEq] at hR3
                      obtain ⟨rfl, rfl⟩ := hR3
                      clear hR2 k9
                      go_wp2_with (first
                        | (go_at_call 24; refine (entry_calls k1 g base A c l sm s a x tt _ (HV.out.below HB.out) (Kd.C_below HC.out HB.out) HP.out HE.out).mono ?_; rintro e w3 ⟨rfl, hb3⟩; have B3 := Aside0.mk (below_step HB.out hb3); have D3 := Aside0.mk hb3; have q6 : w3.cell? ⟨g, 6, none⟩ = some (.map (some bi)) := (blk_cell (blk_below GB.out B3.out) 6).trans rfl; have lk := lookN (MI.out.below B3.out) HTW.out HN2.out; clear hb3 z0)
                        | ((with_reducible refine gate_dst (N := 33) rfl ?_); refine tail_event rfl (.tmp 32) rfl (b := b_) (off := o_) (cn := cn) (m := 0) rfl (by have := HCP.out; simpa using this) ?_; intro A' hA'; have HT3 := Aside0.mk (C_tail2 (Kd.C_below HNR.out D3.out) hA' (by have := HCP.out; simpa using this)); clear hA')
                        | ((with_reducible refine gate_dst (N := 10) rfl ?_); refine var_event (N := 10) (T := 37) (n := 5) (zc := #[.int .u8 0, .int .u16 0, .int .u32 0, .int .u32 0, .string ⟨#[]⟩]) (cs := #[.int .u8 n2.kd, .int .u16 n2.md, .int .u32 n2.ln, .int .u32 n2.sz, .string n2.tg]) rfl rfl rfl (.tmp 39) rfl rfl ?hr (by kernel_rfl) rfl rfl rfl ?hx ?hN ?_; (case hx => intro p_; rfl); (case hN => intro p_; rfl); (case hr => first | (go_simp; done) | (go_simp; rfl)); intro gn hgn w4 hx4 hb4; have Z4 := Aside0.mk hx4; have D4 := Aside0.mk hb4; have B4 := Aside0.mk (below_step B3.out hb4); have y0 : w4.cell? ⟨gn, 0, none⟩ = some (.int .u8 n2.kd) := (blk_cell Z4.out 0).trans rfl; have y4 : w4.cell? ⟨gn, 4, none⟩ = some (.string n2.tg) := (blk_cell Z4.out 4).trans rfl; clear hx4 hb4 hgn q6 lk)
                        | (go_at_call 25; refine (path_Split.calls k1 n2.tg p1 wp _ HS.out).mono ?_; rintro e w5 ⟨v5, rfl, ho5, hb5⟩; have R5 := Aside0.mk ho5; have D45 := Aside0.mk (below_step D4.out hb5); have B5 := Aside0.mk (below_step B4.out hb5); obtain ⟨A5, c5, rfl⟩ := Kd.R_slice ho5; clear ho5 hb5 y0 y4))
                      go_ret2
                      exact ⟨rfl, B5.out⟩
              · have e4 : ((r.length : Int) == 0) = false := beq_eq_false_iff_ne.2 (fun h => hr (List.length_eq_zero_iff.1 (by omega)))
                have e5 : (r.length == 0) = false := beq_eq_false_iff_ne.2 (fun h => hr (List.length_eq_zero_iff.1 h))
                have e6 : (r = []) = False := eq_false hr
                have e7 : r.isEmpty = false := by cases r; · exact absurd rfl hr
                                                  · rfl
                rw [if_pos ⟨k3, fun h => hr h.1⟩] at hR2
                clear k3 hr
                have ew : wrap64 (ln + 1) = ln + 1 := by have := HLN.out; unfold wrap64; omega
                by_cases k8 : 8 < ln + 1
                · rw [if_pos k8] at hR2
                  have e8 : decide (8 < ln + 1) = true := decide_eq_true k8
                  have hR3 := Option.some.inj hR2
                  simp only [Prod.mk.injEq] at hR3
                  obtain ⟨rfl, rfl⟩ := hR3
                  clear hR2 k8
                  go_wp2_with (first
                    | (go_at_call 24; refine (entry_calls k1 g base A c l sm s a x tt _ (HV.out.below HB.out) (Kd.C_below HC.out HB.out) HP.out HE.out).mono ?_; rintro e w3 ⟨rfl, hb3⟩; have B3 := Aside0.mk (below_step HB.out hb3); have D3 := Aside0.mk hb3; have q6 : w3.cell? ⟨g, 6, none⟩ = some (.map (some bi)) := (blk_cell (blk_below GB.out B3.out) 6).trans rfl; have lk := lookN (MI.out.below B3.out) HTW.out HN2.out; clear hb3 z0)
                    | ((with_reducible refine gate_dst (N := 33) rfl ?_); refine tail_event rfl (.tmp 32) rfl (b := b_) (off := o_) (cn := cn) (m := r.length) rfl (by have := HCP.out; simpa using this) ?_; intro A' hA'; have HT3 := Aside0.mk (C_tail2 (Kd.C_below HNR.out D3.out) hA' (by have := HCP.out; simpa using this)); clear hA')
                    | ((with_reducible refine gate_dst (N := 10) rfl ?_); refine var_event (N := 10) (T := 37) (n := 5) (zc := #[.int .u8 0, .int .u16 0, .int .u32 0, .int .u32 0, .string ⟨#[]⟩]) (cs := #[.int .u8 n2.kd, .int .u16 n2.md, .int .u32 n2.ln, .int .u32 n2.sz, .string n2.tg]) rfl rfl rfl (.tmp 39) rfl rfl ?hr (by kernel_rfl) rfl rfl rfl ?hx ?hN ?_; (case hx => intro p_; rfl); (case hN => intro p_; rfl); (case hr => first | (go_simp; done) | (go_simp; rfl)); intro gn hgn w4 hx4 hb4; have Z4 := Aside0.mk hx4; have D4 := Aside0.mk hb4; have B4 := Aside0.mk (below_step B3.out hb4); have y0 : w4.cell? ⟨gn, 0, none⟩ = some (.int .u8 n2.kd) := (blk_cell Z4.out 0).trans rfl; have y4 : w4.cell? ⟨gn, 4, none⟩ = some (.string n2.tg) := (blk_cell Z4.out 4).trans rfl; clear hx4 hb4 hgn q6 lk))
                  go_ret2
                  exact ⟨rfl, B4.out⟩
                · rw [if_neg k8] at hR2
                  have e8 : decide (8 < ln + 1) = false := decide_eq_false k8
                  obtain ⟨⟨p1, wp⟩, hp, hR2⟩ := Option.bind_eq_some_iff.mp hR2
                  have HS := Aside0.mk hp
                  have HL8 := Aside0.mk k8
                  clear hp k8
                  by_cases k9 : wp = 0
                  · rw [if_pos k9] at hR2
                    subst k9
                    split at hR2
                    case isFalse => cases hR2
                    case isTrue hql =>
                    have HQL := Aside0.mk hql
                    have HRR := Aside0.mk hR2
                    clear hR2 hql
                    go_wp2_with (first
                      | (go_at_call 24; refine (entry_calls k1 g base A c l sm s a x tt _ (HV.out.below HB.out) (Kd.C_below HC.out HB.out) HP.out HE.out).mono ?_; rintro e w3 ⟨rfl, hb3⟩; have B3 := Aside0.mk (below_step HB.out hb3); have D3 := Aside0.mk hb3; have q6 : w3.cell? ⟨g, 6, none⟩ = some (.map (some bi)) := (blk_cell (blk_below GB.out B3.out) 6).trans rfl; have lk := lookN (MI.out.below B3.out) HTW.out HN2.out; clear hb3 z0)
                      | ((with_reducible refine gate_dst (N := 33) rfl ?_); refine tail_event rfl (.tmp 32) rfl (b := b_) (off := o_) (cn := cn) (m := r.length) rfl (by have := HCP.out; simpa using this) ?_; intro A' hA'; have HT3 := Aside0.mk (C_tail2 (Kd.C_below HNR.out D3.out) hA' (by have := HCP.out; simpa using this)); clear hA')
                      | ((with_reducible refine gate_dst (N := 10) rfl ?_); refine var_event (N := 10) (T := 37) (n := 5) (zc := #[.int .u8 0, .int .u16 0, .int .u32 0, .int .u32 0, .string ⟨#[]⟩]) (cs := #[.int .u8 n2.kd, .int .u16 n2.md, .int .u32 n2.ln, .int .u32 n2.sz, .string n2.tg]) rfl rfl rfl (.tmp 39) rfl rfl ?hr (by kernel_rfl) rfl rfl rfl ?hx ?hN ?_; (case hx => intro p_; rfl); (case hN => intro p_; rfl); (case hr => first | (go_simp; done) | (go_simp; rfl)); intro gn hgn w4 hx4 hb4; have Z4 := Aside0.mk hx4; have D4 := Aside0.mk hb4; have B4 := Aside0.mk (below_step B3.out hb4); have y0 : w4.cell? ⟨gn, 0, none⟩ = some (.int .u8 n2.kd) := (blk_cell Z4.out 0).trans rfl; have y4 : w4.cell? ⟨gn, 4, none⟩ = some (.string n2.tg) := (blk_cell Z4.out 4).trans rfl; clear hx4 hb4 hgn q6 lk)
                      | (go_at_call 25; refine (path_Split.calls k1 n2.tg p1 0 _ HS.out).mono ?_; rintro e w5 ⟨v5, rfl, ho5, hb5⟩; have R5 := Aside0.mk ho5; have D45 := Aside0.mk (below_step D4.out hb5); have B5 := Aside0.mk (below_step B4.out hb5); obtain ⟨A5, c5, rfl⟩ := Kd.R_slice ho5; clear ho5 hb5 y0 y4)
                      | ((with_reducible refine gate_dst (N := 67) rfl ?_); refine litv_event (cs := #[.slice A5 p1.length c5, .slice A' r.length (cn - 1)]) (t := 23) (n := 2) rfl ?hr ?_; (case hr => first | (go_simp; done) | (go_simp; rfl)); intro gq hgq w6 hx6 hb6; have Q6 := Aside0.mk hx6; have D6 := Aside0.mk hb6; have B6 := Aside0.mk (below_step B5.out hb6); clear hx6 hb6 hgq)
                      | (go_at_call 26; refine (concat_calls gq 23 A5 A' c5 (cn - 1) p1 r _ Q6.out (Kd.C_below (Kd.R_reads' R5.out).2.2 D6.out) (Kd.C_below (Kd.C_below HT3.out D45.out) D6.out) HQL.out).mono ?_; rintro e w7 ⟨v7, rfl, ho7, hb7⟩; have R7 := Aside0.mk ho7; have B7 := Aside0.mk (below_step B6.out hb7); obtain ⟨A7, c7, hv7⟩ := Kd.R_slice ho7; obtain ⟨n7, hn7⟩ : ∃ n7, n7 = (p1 ++ r).length := ⟨_, rfl⟩; rw [← hn7] at hv7; subst hv7; have N7 := Aside0.mk hn7; clear ho7 hb7 hn7))
                    go_roundg k1
                    case measure => have := HK1.out; omega
                    case rel => exact ⟨A7, c7, p1 ++ r, 1, ln + 1, (by rw [N7.out]), rfl, rfl, HRR, ⟨by have := HK1.out; omega⟩, ⟨by decide⟩, ⟨by have := HLN.out; have := HL8.out; omega⟩, ⟨by rw [← N7.out]; exact (Kd.R_reads' R7.out).2.1⟩, ⟨by have := (Kd.R_reads' R7.out).2.2; first | exact this | (rw [N7.out] at this; exact this)⟩, B7⟩
                  · rw [if_neg k9] at hR2
                    have e9 : (wp != 0) = true := bne_iff_ne.2 k9
                    have hR3 := Option.some.inj hR2
                    simp only [Prod.mk.injEq] at hR3
                    obtain ⟨rfl, rfl⟩ := hR3
                    clear hR2 k9
                    go_wp2_with (first
                      | (go_at_call 24; refine (entry_calls k1 g base A c l sm s a x tt _ (HV.out.below HB.out) (Kd.C_below HC.out HB.out) HP.out HE.out).mono ?_; rintro e w3 ⟨rfl, hb3⟩; have B3 := Aside0.mk (below_step HB.out hb3); have D3 := Aside0.mk hb3; have q6 : w3.cell? ⟨g, 6, none⟩ = some (.map (some bi)) := (blk_cell (blk_below GB.out B3.out) 6).trans rfl; have lk := lookN (MI.out.below B3.out) HTW.out HN2.out; clear hb3 z0)
                      | ((with_reducible refine gate_dst (N := 33) rfl ?_); refine tail_event rfl (.tmp 32) rfl (b := b_) (off := o_) (cn := cn) (m := r.length) rfl (by have := HCP.out; simpa using this) ?_; intro A' hA'; have HT3 := Aside0.mk (C_tail2 (Kd.C_below HNR.out D3.out) hA' (by have := HCP.out; simpa using this)); clear hA')
                      | ((with_reducible refine gate_dst (N := 10) rfl ?_); refine var_event (N := 10) (T := 37) (n := 5) (zc := #[.int .u8 0, .int .u16 0, .int .u32 0, .int .u32 0, .string ⟨#[]⟩]) (cs := #[.int .u8 n2.kd, .int .u16 n2.md, .int .u32 n2.ln, .int .u32 n2.sz, .string n2.tg]) rfl rfl rfl (.tmp 39) rfl rfl ?hr (by kernel_rfl) rfl rfl rfl ?hx ?hN ?_; (case hx => intro p_; rfl); (case hN => intro p_; rfl); (case hr => first | (go_simp; done) | (go_simp; rfl)); intro gn hgn w4 hx4 hb4; have Z4 := Aside0.mk hx4; have D4 := Aside0.mk hb4; have B4 := Aside0.mk (below_step B3.out hb4); have y0 : w4.cell? ⟨gn, 0, none⟩ = some (.int .u8 n2.kd) := (blk_cell Z4.out 0).trans rfl; have y4 : w4.cell? ⟨gn, 4, none⟩ = some (.string n2.tg) := (blk_cell Z4.out 4).trans rfl; clear hx4 hb4 hgn q6 lk)
                      | (go_at_call 25; refine (path_Split.calls k1 n2.tg p1 wp _ HS.out).mono ?_; rintro e w5 ⟨v5, rfl, ho5, hb5⟩; have R5 := Aside0.mk ho5; have D45 := Aside0.mk (below_step D4.out hb5); have B5 := Aside0.mk (below_step B4.out hb5); obtain ⟨A5, c5, rfl⟩ := Kd.R_slice ho5; clear ho5 hb5 y0 y4))
                    go_ret2
                    exact ⟨rfl, B5.out⟩
            · have e3 : (n2.kd != 3) = true := bne_iff_ne.2 k3
              rw [if_neg (fun h => k3 h.1)] at hR2
              have HRR := Aside0.mk hR2
              clear hR2 k3
              go_wp2_with (first
                | (go_at_call 24; refine (entry_calls k1 g base A c l sm s a x tt _ (HV.out.below HB.out) (Kd.C_below HC.out HB.out) HP.out HE.out).mono ?_; rintro e w3 ⟨rfl, hb3⟩; have B3 := Aside0.mk (below_step HB.out hb3); have D3 := Aside0.mk hb3; have q6 : w3.cell? ⟨g, 6, none⟩ = some (.map (some bi)) := (blk_cell (blk_below GB.out B3.out) 6).trans rfl; have lk := lookN (MI.out.below B3.out) HTW.out HN2.out; clear hb3 z0)
                | ((with_reducible refine gate_dst (N := 33) rfl ?_); refine tail_event rfl (.tmp 32) rfl (b := b_) (off := o_) (cn := cn) (m := r.length) rfl (by have := HCP.out; simpa using this) ?_; intro A' hA'; have HT3 := Aside0.mk (C_tail2 (Kd.C_below HNR.out D3.out) hA' (by have := HCP.out; simpa using this)); clear hA')
                | ((with_reducible refine gate_dst (N := 10) rfl ?_); refine var_event (N := 10) (T := 37) (n := 5) (zc := #[.int .u8 0, .int .u16 0, .int .u32 0, .int .u32 0, .string ⟨#[]⟩]) (cs := #[.int .u8 n2.kd, .int .u16 n2.md, .int .u32 n2.ln, .int .u32 n2.sz, .string n2.tg]) rfl rfl rfl (.tmp 39) rfl rfl ?hr (by kernel_rfl) rfl rfl rfl ?hx ?hN ?_; (case hx => intro p_; rfl); (case hN => intro p_; rfl); (case hr => first | (go_simp; done) | (go_simp; rfl)); intro gn hgn w4 hx4 hb4; have Z4 := Aside0.mk hx4; have D4 := Aside0.mk hb4; have B4 := Aside0.mk (below_step B3.out hb4); have y0 : w4.cell? ⟨gn, 0, none⟩ = some (.int .u8 n2.kd) := (blk_cell Z4.out 0).trans rfl; have y4 : w4.cell? ⟨gn, 4, none⟩ = some (.string n2.tg) := (blk_cell Z4.out 4).trans rfl; clear hx4 hb4 hgn q6 lk))
              go_roundg k1
              case measure => have := HK1.out; omega
              case rel => exact ⟨A', cn - 1, r, tt, ln, rfl, rfl, rfl, HRR, ⟨by have := HK1.out; omega⟩, HTW, HLN, ⟨by first | (simp; done) | (have := HCP.out; simp at this; omega)⟩, ⟨Kd.C_below HT3.out D4.out⟩, B4⟩
        · rw [if_neg k0] at hR
          have e0 : (n1.kd != 1) = true := bne_iff_ne.2 k0
          have hR3 := Option.some.inj hR
          simp only [Prod.mk.injEq] at hR3
          obtain ⟨rfl, rfl⟩ := hR3
          clear hR k0
          go_wp2
          go_ret2
          exact ⟨rfl, HB.out⟩
end Go.Proofs.Ytpnmajblhgnkoaa.Z
end

section
/- dirs: List (printed by genlist.py). -/
namespace Go.Proofs.Ytpnmajblhgnkoaa.Z
open Go.RowKit Go.Proofs.YtpnmajblhgnkoaaW.PrintWords Go.Proofs.YtpnmajblhgnkoaaW.PrintLast Go.Proofs.YtpnmajblhgnkoaaW.PrintMore
set_option linter.unusedVariables false
set_option linter.unusedSimpArgs false
attribute [local go_sem ↓] Go.wp_at_zero Go.wp_at_succ
theorem info_entry : (Try.prog.info? 34).map (fun i => (i.zero, i.size, i.bytes)) = some (some (.agg #[.string ⟨#[]⟩, .int .u32 0, .int .u8 0]), 3, 24) := by kernel_rfl
theorem erow_base {w : World} {base : Nat} {v : Value} {l : List S34} (h : k34.R 34 w base (fun _ => True) v l) (b : Nat) (e : v.ownBlock = some b) : base ≤ b := by
  obtain ⟨inner, ho⟩ := Kd.R_own h
  exact own_base ho b e
/-- What a directory has. -/
def listL (k : Nat) (s : VS) (ino : Int) : List KItm → List S34 → Option (List S34)
  | [], acc => some acc
  | x :: r, acc => if x.f0 = 2 ∧ x.f1 = ino then (dirs_number.f k x.f4).bind fun t => if acc.length < 4398046511104 then listL k s ino r (acc ++ [⟨x.f2, t, ((s.ino t).getD zI).kd⟩]) else none else listL k s ino r acc
theorem listL.mono (s : VS) (ino : Int) : ∀ (l : List KItm) (acc : List S34) (k : Nat), LeO (listL k s ino l acc) (listL (k + 1) s ino l acc)
  | [], acc, k => LeO.refl _
  | x :: r, acc, k => by
    unfold listL
    exact LeO.ite (LeO.bind (dirs_number.mono _ _) (fun _ => LeO.ite (listL.mono s ino r _ k) (LeO.none _))) (listL.mono s ino r _ k)
set_option maxRecDepth 100000 in
set_option maxHeartbeats 6400000 in
theorem list_calls (k : Nat) (g base : Nat) (it : Value) (d m sm : Int) (r : Bool) (s : VS) (ino : Int) (res : List S34) (w : World) (hV : VolR w g base it d m sm r s) (h : listL k s ino s.all [] = some res) :
    Calls Try.prog 18 #[.pointer (some ⟨g, 0, none⟩), .int .u32 ino] w fun e w' => ∃ v, e = .returned v ∧ k34.R 34 w' w.heap.size (fun _ => True) v res ∧ Below w.heap.size w w' := by
  have hok := hV.ok
  obtain ⟨va, bi, bu, hG, hA, hI, _⟩ := hV
  obtain ⟨A1, c1, rfl⟩ := Kd.R_slice hA
  have RA := Aside0.mk (Kd.R_reads' hA)
  have HOK := Aside0.mk hok
  have GB := Aside0.mk hG
  have MI := Aside0.mk hI
  have H := Aside0.mk h
  have q5 : w.cell? ⟨g, 5, none⟩ = some (.slice A1 s.all.length c1) := (blk_cell hG 5).trans rfl
  clear hok hG hA hI h
  go_enter Try.func18, Try.ntmps18
  go_wp2
  clear q5
  go_loopw [5, 14] (fun vo vi wr => ∃ (i : Int) (acc : List S34), vi = .int .i64 i ∧ Aside0 (0 ≤ i ∧ i ≤ s.all.length) ∧ Aside0 (k34.R 34 wr w.heap.size (fun _ => True) vo acc) ∧ Aside0 (Below w.heap.size w wr) ∧ Aside0 (listL k s ino (s.all.drop i.toNat) acc = some res)) (fun _ vi _ => s.all.length - (intOf vi).toNat)
  case atStart => exact ⟨0, [], rfl, ⟨by omega⟩, ⟨Kd.R_nil _ _ _ _ _⟩, ⟨Below.refl _ _⟩, H⟩
  case round =>
    obtain ⟨i, acc, rfl, HX, HA, HBW, HRL⟩ := hrel
    obtain ⟨hi0, hi1⟩ := HX.out
    by_cases hlt : i < (s.all.length : Int)
    · obtain ⟨A0, c0, hv⟩ := Kd.R_slice HA.out
      subst hv
      obtain ⟨ad, hAd, q0, q1, q2, q3, q4⟩ := at_Kept RA.out.2.2 i hi0 hlt
      subst hAd
      replace q0 := (HBW.out.cell (World.block_lt_of_cell? w _ q0)).trans q0
      replace q1 := (HBW.out.cell (World.block_lt_of_cell? w _ q1)).trans q1
      replace q2 := (HBW.out.cell (World.block_lt_of_cell? w _ q2)).trans q2
      replace q3 := (HBW.out.cell (World.block_lt_of_cell? w _ q3)).trans q3
      replace q4 := (HBW.out.cell (World.block_lt_of_cell? w _ q4)).trans q4
      have hlt2 : decide (i < (s.all.length : Int)) = true := decide_eq_true hlt
      have p0 := eq_true hi0
      have p1 := eq_true hlt
      obtain ⟨x, hx⟩ : ∃ x, x = rd_Kept s.all i := ⟨_, rfl⟩
      have hR0 := HRL.out
      rw [drop_Kept hi0 hlt, listL, ← hx] at hR0
      rw [← hx] at q0 q1 q2 q3 q4
      have ew : wrap64 (i + 1) = i + 1 := by have := HOK.out.2.2.1; unfold wrap64; omega
      have EW := Aside0.mk ew
      have LT := Aside0.mk hlt
      have HR0 := Aside0.mk hR0
      clear ew hlt hi0 hi1 hx hR0
      by_cases hk : x.f0 = 2
      · have e0 : (x.f0 == 2) = true := beq_iff_eq.2 hk
        by_cases hk1 : x.f1 = ino
        · have e1 : (x.f1 == ino) = true := beq_iff_eq.2 hk1
          have hR := HR0.out
          rw [if_pos ⟨hk, hk1⟩] at hR
          obtain ⟨tt, ht, hR⟩ := Option.bind_eq_some_iff.mp hR
          split at hR
          case isFalse => cases hR
          case isTrue hq =>
          obtain ⟨n, hn⟩ : ∃ n, n = (s.ino tt).getD zI := ⟨_, rfl⟩
          rw [← hn] at hR
          have HT := Aside0.mk ht
          have HTW := Aside0.mk (number_wf ht)
          have HN := Aside0.mk hn
          have HQ := Aside0.mk hq
          have HR2 := Aside0.mk hR
          clear hk hk1 hR ht hn hq HR0
          go_wp2_with (first | ((with_reducible refine gate_dst (N := 7) rfl ?_); refine var_event (N := 7) (T := 84) (n := 5) (zc := #[.int .u8 0, .int .u32 0, .string ⟨#[]⟩, .int .u32 0, .string ⟨#[]⟩]) (cs := #[.int .u8 x.f0, .int .u32 x.f1, .string x.f2, .int .u32 x.f3, .string x.f4]) rfl rfl rfl (.tmp 17) rfl rfl ?hr (by kernel_rfl) rfl rfl rfl ?hx ?hN ?_; (case hx => intro p_; rfl); (case hN => intro p_; rfl); (case hr => first | (go_simp; done) | (go_simp; rfl)); intro gx hgx w3 hx3 hb3; have X3 := Aside0.mk hx3; have B3 := Aside0.mk (below_step HBW.out hb3); have A3 := Aside0.mk (Kd.R_below HA.out hb3); have y0 : w3.cell? ⟨gx, 0, none⟩ = some (.int .u8 x.f0) := (blk_cell X3.out 0).trans rfl; have y1 : w3.cell? ⟨gx, 1, none⟩ = some (.int .u32 x.f1) := (blk_cell X3.out 1).trans rfl; have y4 : w3.cell? ⟨gx, 4, none⟩ = some (.string x.f4) := (blk_cell X3.out 4).trans rfl; clear hx3 hb3 hgx q0 q1 q2 q3 q4) | (go_at_call 27; refine (dirs_number.calls k x.f4 tt _ HT.out).mono ?_; rintro e w4 ⟨rfl, hd⟩; have X4 := Aside0.mk (blk_below X3.out hd.below); have B4 := Aside0.mk (below_step B3.out hd.below); have A4 := Aside0.mk (Kd.R_below A3.out hd.below); clear hd y0 y1 y4))
          have G4 := Aside0.mk (blk_below GB.out B4.out)
          have I4 := Aside0.mk (MI.out.below B4.out)
          refine start_ (n := 16) (S := (fun w' => w'.cell? ⟨g, 6, none⟩ = some (.map (some bi)) ∧ w'.cell? ⟨gx, 2, none⟩ = some (.string x.f2) ∧ (Instr.lookup 74 (.map (some bi)) (.int .u32 tt) false).run Try.prog w' = .ok (.agg #[.int .u8 n.kd, .int .u16 n.md, .int .u32 n.ln, .int .u32 n.sz, .string n.tg]) w')) (ds := [14]) #[false, false, false, false, false, false, false, false, false, false, false, false, false, false, false, false] (by kernel_rfl) rfl rfl ⟨(blk_cell (blk_below G4.out (show Below w4.heap.size w4 w4.drew from below_drew1 (Below.refl _ _))) 6).trans rfl, (blk_cell (blk_below X4.out (show Below w4.heap.size w4 w4.drew from below_drew1 (Below.refl _ _))) 2).trans rfl, (lookN (I4.out.below (show Below w4.heap.size w4 w4.drew from below_drew1 (Below.refl _ _))) HTW.out HN.out)⟩ (fun hHeld => ?_)
          refine pure_ (i := 0) (N := some 32) (v := ?_) (a' := ?_) #[true, false, false, false, false, false, false, false, false, false, false, false, false, false, false, false] rfl rfl (by kernel_rfl) (fun _ _ _ h => h) (Or.inl ⟨by rfl, ?_⟩) ?_ ?_
          rotate_left
          · intro w'
            go_simp
            with_reducible rfl
          rotate_left
          · simp only [Act.put, List.setIfInBounds_toArray, List.set_cons_zero, List.set_cons_succ, i64_w, i32_w]
            rfl
          refine pure_ (i := 1) (N := some 33) (v := ?_) (a' := ?_) #[true, true, false, false, false, false, false, false, false, false, false, false, false, false, false, false] rfl rfl (by kernel_rfl) (fun _ _ _ h => h) (Or.inl ⟨by rfl, ?_⟩) ?_ ?_
          rotate_left
          · intro w'
            go_simp
            with_reducible rfl
          rotate_left
          · simp only [Act.put, List.setIfInBounds_toArray, List.set_cons_zero, List.set_cons_succ, i64_w, i32_w]
            rfl
          refine pure_ (i := 2) (N := some 34) (v := ?_) (a' := ?_) #[true, true, true, false, false, false, false, false, false, false, false, false, false, false, false, false] rfl rfl (by kernel_rfl) (fun _ _ _ h => h) (Or.inl ⟨by rfl, ?_⟩) ?_ ?_
          rotate_left
          · intro w'
            go_simp
            with_reducible rfl
          rotate_left
          · simp only [Act.put, List.setIfInBounds_toArray, List.set_cons_zero, List.set_cons_succ, i64_w, i32_w]
            rfl
          refine take_ (i := 3) (N := some 35) (v := ?_) (a' := ?_) #[true, true, true, true, false, false, false, false, false, false, false, false, false, false, false, false] rfl rfl (by kernel_rfl) (fun _ _ _ h => h) (Or.inl ⟨by rfl, ?_⟩) hHeld ?_ ?_
          rotate_left
          · rintro w' ⟨s0, s1, s2⟩
            go_simp
            with_reducible rfl
          rotate_left
          · simp only [Act.put, List.setIfInBounds_toArray, List.set_cons_zero, List.set_cons_succ, i64_w, i32_w]
            rfl
          refine pure_ (i := 4) (N := some 36) (v := ?_) (a' := ?_) #[true, true, true, true, true, false, false, false, false, false, false, false, false, false, false, false] rfl rfl (by kernel_rfl) (fun _ _ _ h => h) (Or.inl ⟨by rfl, ?_⟩) ?_ ?_
          rotate_left
          · intro w'
            go_simp
            with_reducible rfl
          rotate_left
          · simp only [Act.put, List.setIfInBounds_toArray, List.set_cons_zero, List.set_cons_succ, i64_w, i32_w]
            rfl
          refine pure_ (i := 5) (N := some 37) (v := ?_) (a' := ?_) #[true, true, true, true, true, true, false, false, false, false, false, false, false, false, false, false] rfl rfl (by kernel_rfl) (fun _ _ _ h => h) (Or.inl ⟨by rfl, ?_⟩) ?_ ?_
          rotate_left
          · intro w'
            go_simp
            with_reducible rfl
          rotate_left
          · simp only [Act.put, List.setIfInBounds_toArray, List.set_cons_zero, List.set_cons_succ, i64_w, i32_w]
            rfl
          refine pure_ (i := 6) (N := some 38) (v := ?_) (a' := ?_) #[true, true, true, true, true, true, true, false, false, false, false, false, false, false, false, false] rfl rfl (by kernel_rfl) (fun _ _ _ h => h) (Or.inl ⟨by rfl, ?_⟩) ?_ ?_
          rotate_left
          · intro w'
            go_simp
            with_reducible rfl
          rotate_left
          · simp only [Act.put, List.setIfInBounds_toArray, List.set_cons_zero, List.set_cons_succ, i64_w, i32_w]
            rfl
          refine pure_ (i := 7) (N := some 39) (v := ?_) (a' := ?_) #[true, true, true, true, true, true, true, true, false, false, false, false, false, false, false, false] rfl rfl (by kernel_rfl) (fun _ _ _ h => h) (Or.inl ⟨by rfl, ?_⟩) ?_ ?_
          rotate_left
          · intro w'
            go_simp
            with_reducible rfl
          rotate_left
          · simp only [Act.put, List.setIfInBounds_toArray, List.set_cons_zero, List.set_cons_succ, i64_w, i32_w]
            rfl
          refine take_ (i := 8) (N := some 40) (v := ?_) (a' := ?_) #[true, true, true, true, true, true, true, true, true, false, false, false, false, false, false, false] rfl rfl (by kernel_rfl) (fun _ _ _ h => h) (Or.inl ⟨by rfl, ?_⟩) hHeld ?_ ?_
          rotate_left
          · rintro w' ⟨s0, s1, s2⟩
            go_simp
            with_reducible rfl
          rotate_left
          · simp only [Act.put, List.setIfInBounds_toArray, List.set_cons_zero, List.set_cons_succ, i64_w, i32_w]
            rfl
          refine pure_ (i := 9) (N := some 41) (v := ?_) (a' := ?_) #[true, true, true, true, true, true, true, true, true, true, false, false, false, false, false, false] rfl rfl (by kernel_rfl) (fun _ _ _ h => h) (Or.inl ⟨by rfl, ?_⟩) ?_ ?_
          rotate_left
          · intro w'
            go_simp
            with_reducible rfl
          rotate_left
          · simp only [Act.put, List.setIfInBounds_toArray, List.set_cons_zero, List.set_cons_succ, i64_w, i32_w]
            rfl
          refine take_ (i := 10) (N := some 42) (v := ?_) (a' := ?_) #[true, true, true, true, true, true, true, true, true, true, true, false, false, false, false, false] rfl rfl (by kernel_rfl) (fun _ _ _ h => h) (Or.inl ⟨by rfl, ?_⟩) hHeld ?_ ?_
          rotate_left
          · rintro w' ⟨s0, s1, s2⟩
            go_simp
            with_reducible rfl
          rotate_left
          · simp only [Act.put, List.setIfInBounds_toArray, List.set_cons_zero, List.set_cons_succ, i64_w, i32_w]
            rfl
          refine pure_ (i := 11) (N := some 43) (v := ?_) (a' := ?_) #[true, true, true, true, true, true, true, true, true, true, true, true, false, false, false, false] rfl rfl (by kernel_rfl) (fun _ _ _ h => h) (Or.inl ⟨by rfl, ?_⟩) ?_ ?_
          rotate_left
          · intro w'
            go_simp
            rfl
          rotate_left
          · simp only [Act.put, List.setIfInBounds_toArray, List.set_cons_zero, List.set_cons_succ, i64_w, i32_w]
            rfl
          refine pure_ (i := 12) (N := some 44) (v := ?_) (a' := ?_) #[true, true, true, true, true, true, true, true, true, true, true, true, true, false, false, false] rfl rfl (by kernel_rfl) (fun _ _ _ h => h) (Or.inl ⟨by rfl, ?_⟩) ?_ ?_
          rotate_left
          · intro w'
            go_simp
            with_reducible rfl
          rotate_left
          · simp only [Act.put, List.setIfInBounds_toArray, List.set_cons_zero, List.set_cons_succ, i64_w, i32_w]
            rfl
          refine one_ (i := 13) (N := some 45) #[true, true, true, true, true, true, true, true, true, true, true, true, true, true, false, false] rfl rfl (by kernel_rfl) (by decide) (fun K hK => ?_)
          refine Kd.R_lit_step k34 (w0 := w4.drew) w4.drew.heap.size 34 (by rfl) (N := 45) rfl (xs := [(⟨x.f2, tt, n.kd⟩ : S34)]) (inner := [.string x.f2, .int .u32 tt, .int .u8 n.kd]) (ok := fun _ => True) (okp := fun _ => True) (by first | (go_simp; done) | (go_simp; rfl)) (Reps.c3 (k34_mkM _ _ _ (⟨x.f2, tt, n.kd⟩ : S34)) (Reps.none _ _)) (fun _ hk => hk) trivial (Below.refl _ _) (Nat.le_refl _) (by simp) ?_
          intro v8 w8 ho hb hg_ hnew_
          have R8 := Aside0.mk ho
          have B8 := Aside0.mk (show Below w4.heap.size w4 w8 from below_then (show Below w4.heap.size w4 w4.drew from below_drew1 (Below.refl _ _)) (show Below w4.heap.size w4 w4.drew from below_drew1 (Below.refl _ _)).size hb)
          obtain ⟨A8, c8, rfl⟩ := Kd.R_slice ho
          clear ho hb hg_ hnew_
          refine hK.out _ _ ⟨(blk_cell (blk_below G4.out B8.out) 6).trans rfl, (blk_cell (blk_below X4.out B8.out) 2).trans rfl, (lookN (I4.out.below B8.out) HTW.out HN.out)⟩ (fun hHeld => ?_)
          clear hK K
          refine norm_ (a' := ?_) ?_ ?_
          rotate_left
          · show Act.put _ (some 45) _ = _
            simp only [Act.put, List.setIfInBounds_toArray, List.set_cons_zero, List.set_cons_succ, i64_w, i32_w]
            rfl
          refine last_ (i := 14) (N := some 46) #[true, true, true, true, true, true, true, true, true, true, true, true, true, true, true, false] rfl rfl (by kernel_rfl) (by decide) (fun K hK => ?_)
          refine Kd.R_append_rows_step k34 (w0 := w8) w.heap.size (by rfl) (.tmp 32) (.tmp 45) 29 34 (.agg #[.string ⟨#[]⟩, .int .u32 0, .int .u8 0]) 24 rfl Try.underlying29 info_entry rfl (by decide) (by omega) (.slice A0 acc.length c0) acc [(⟨x.f2, tt, n.kd⟩ : S34)] _ _ _ (fun _ => True) (fun _ => False) rfl rfl ?aO ?aR (fun _ _ h => h) (fun _ h => h.elim) ?aF ?aB ?aS ?aL ?_
          case aR => exact (Kd.R_reads' R8.out).2.2
          case aB => exact Below.refl _ _
          case aF => exact fun _ _ => trivial
          case aO => exact Kd.R_below A4.out B8.out
          case aS => exact Nat.le_trans B4.out.size B8.out.size
          case aL => have := HQ.out; simp; omega
          intro v9 w9 ho hb hg hat
          have R9 := Aside0.mk ho
          have B9 := Aside0.mk (show Below w.heap.size w w9 from (below_step B4.out B8.out).grown hg (Nat.le_trans B4.out.size B8.out.size) (fun j hj => erow_base (Kd.R_below A4.out B8.out) j hj))
          clear ho hb hg hat
          refine hK.out _ _ ?_
          clear hK K
          refine norm_ (a' := ?_) ?_ ?_
          rotate_left
          · show Act.put _ (some 46) _ = _
            simp only [Act.put, List.setIfInBounds_toArray, List.set_cons_zero, List.set_cons_succ, i64_w, i32_w]
            rfl
          refine pure_ (i := 15) (N := some 5) (v := ?_) (a' := ?_) #[true, true, true, true, true, true, true, true, true, true, true, true, true, true, true, true] rfl rfl (by kernel_rfl) (fun _ _ _ h => h) (Or.inl ⟨by rfl, ?_⟩) ?_ ?_
          rotate_left
          · intro w'
            go_simp
            with_reducible rfl
          rotate_left
          · simp only [Act.put, List.setIfInBounds_toArray, List.set_cons_zero, List.set_cons_succ, i64_w, i32_w]
            rfl
          refine done_ (by kernel_rfl) ?_
          clear hHeld
          go_wp2
          have hx := HX.out
          have hl := LT.out
          go_roundw
          case rel => exact ⟨i + 1, acc ++ [⟨x.f2, tt, n.kd⟩], by rw [EW.out], ⟨by omega⟩, R9, B9, HR2⟩
          case measure =>
            simp [EW.out, intOf]
            omega
        · have e1 : (x.f1 == ino) = false := beq_eq_false_iff_ne.2 hk1
          have HR2 := Aside0.mk (show listL k s ino (s.all.drop (i + 1).toNat) acc = some res by have := HR0.out; rw [if_neg (fun h => hk1 h.2)] at this; exact this)
          clear hk hk1 HR0
          go_wp2_with (first | ((with_reducible refine gate_dst (N := 7) rfl ?_); refine var_event (N := 7) (T := 84) (n := 5) (zc := #[.int .u8 0, .int .u32 0, .string ⟨#[]⟩, .int .u32 0, .string ⟨#[]⟩]) (cs := #[.int .u8 x.f0, .int .u32 x.f1, .string x.f2, .int .u32 x.f3, .string x.f4]) rfl rfl rfl (.tmp 17) rfl rfl ?hr (by kernel_rfl) rfl rfl rfl ?hx ?hN ?_; (case hx => intro p_; rfl); (case hN => intro p_; rfl); (case hr => first | (go_simp; done) | (go_simp; rfl)); intro gx hgx w3 hx3 hb3; have X3 := Aside0.mk hx3; have B3 := Aside0.mk (below_step HBW.out hb3); have A3 := Aside0.mk (Kd.R_below HA.out hb3); have y0 : w3.cell? ⟨gx, 0, none⟩ = some (.int .u8 x.f0) := (blk_cell X3.out 0).trans rfl; have y1 : w3.cell? ⟨gx, 1, none⟩ = some (.int .u32 x.f1) := (blk_cell X3.out 1).trans rfl; have y4 : w3.cell? ⟨gx, 4, none⟩ = some (.string x.f4) := (blk_cell X3.out 4).trans rfl; clear hx3 hb3 hgx q0 q1 q2 q3 q4))
          have hx := HX.out
          have hl := LT.out
          go_roundw
          case rel => exact ⟨i + 1, acc, by rw [EW.out], ⟨by omega⟩, A3, B3, HR2⟩
          case measure =>
            simp [EW.out, intOf]
            omega
      · have e0 : (x.f0 == 2) = false := beq_eq_false_iff_ne.2 hk
        have HR2 := Aside0.mk (show listL k s ino (s.all.drop (i + 1).toNat) acc = some res by have := HR0.out; rw [if_neg (fun h => hk h.1)] at this; exact this)
        clear hk HR0
        go_wp2_with (first | ((with_reducible refine gate_dst (N := 7) rfl ?_); refine var_event (N := 7) (T := 84) (n := 5) (zc := #[.int .u8 0, .int .u32 0, .string ⟨#[]⟩, .int .u32 0, .string ⟨#[]⟩]) (cs := #[.int .u8 x.f0, .int .u32 x.f1, .string x.f2, .int .u32 x.f3, .string x.f4]) rfl rfl rfl (.tmp 17) rfl rfl ?hr (by kernel_rfl) rfl rfl rfl ?hx ?hN ?_; (case hx => intro p_; rfl); (case hN => intro p_; rfl); (case hr => first | (go_simp; done) | (go_simp; rfl)); intro gx hgx w3 hx3 hb3; have X3 := Aside0.mk hx3; have B3 := Aside0.mk (below_step HBW.out hb3); have A3 := Aside0.mk (Kd.R_below HA.out hb3); have y0 : w3.cell? ⟨gx, 0, none⟩ = some (.int .u8 x.f0) := (blk_cell X3.out 0).trans rfl; have y1 : w3.cell? ⟨gx, 1, none⟩ = some (.int .u32 x.f1) := (blk_cell X3.out 1).trans rfl; have y4 : w3.cell? ⟨gx, 4, none⟩ = some (.string x.f4) := (blk_cell X3.out 4).trans rfl; clear hx3 hb3 hgx q0 q1 q2 q3 q4))
        have hx := HX.out
        have hl := LT.out
        go_roundw
        case rel => exact ⟨i + 1, acc, by rw [EW.out], ⟨by omega⟩, A3, B3, HR2⟩
        case measure =>
          simp [EW.out, intOf]
          omega
    · have hge : decide (i < (s.all.length : Int)) = false := decide_eq_false hlt
      have hR := HRL.out
      rw [List.drop_eq_nil_of_le (by omega), listL] at hR
      obtain rfl := Option.some.inj hR
      clear hR HRL hlt hi0 hi1
      go_wp2
      go_ret
      exact ⟨_, rfl, HA.out, HBW.out⟩
end Go.Proofs.Ytpnmajblhgnkoaa.Z
end

section
/- dirs: Check, Get, Walk, List, Next (printed by gendirs.py). -/
namespace Go.Proofs.Ytpnmajblhgnkoaa.Z
open Go.RowKit Go.Proofs.YtpnmajblhgnkoaaW.PrintWords Go.Proofs.YtpnmajblhgnkoaaW.PrintLast Go.Proofs.YtpnmajblhgnkoaaW.PrintMore
set_option linter.unusedVariables false
set_option linter.unusedSimpArgs false
attribute [local go_sem ↓] Go.wp_at_zero Go.wp_at_succ
set_option maxRecDepth 100000 in
theorem vopen_calls (A : Option Addr) (c : Nat) (l : List VIT) (w : World) : Calls Try.prog 14 #[.slice A l.length c] w fun e w' => ∃ g, e = .returned (.pointer (some ⟨g, 0, none⟩)) ∧ w.heap.size ≤ g ∧ w'.heap[g]? = some (volO (.slice A l.length c) (.slice none 0 0) (.map none) (.map none) 0 0 0 false) ∧ Below w.heap.size w w' := by
  go_enter Try.func14, Try.ntmps14
  go_wp2_with ((with_reducible refine gate_dst (N := 5) rfl ?_); refine box_event ?hg (N := 5) ?hd (cs := #[.slice A l.length c, .int .u32 0, .int .i32 0, .int .u32 0, .bool false, .slice none 0 0, .map none, .map none]) (t := 77) ?hr ?_; (case hd => rfl); (case hg => rfl); (case hr => first | (go_simp; done) | (go_simp; rfl)); intro g hg w1 hx hb; have X1 := Aside0.mk hx; have B1 := Aside0.mk hb; have GG := Aside0.mk (show w.heap.size ≤ g by rw [hg]; exact Nat.le_refl _); clear hx hb hg)
  go_ret
  exact ⟨g, rfl, GG.out, X1.out, B1.out⟩
def dirs_Check.f (k : Nat) (l0 : List VIT) : Option (Int) := (lookF k l0).bind fun o => match o with | none => some 9 | some s => some 0
theorem dirs_Check.mono : ∀ a0 k, LeO (dirs_Check.f k a0) (dirs_Check.f (k + 1) a0) := fun a0 k => by
  unfold dirs_Check.f
  exact LeO.bind (lookF.mono _ _) (fun _ => LeO.refl _)
set_option maxRecDepth 100000 in
set_option maxHeartbeats 3200000 in
theorem dirs_Check.calls (k : Nat) (A0 : Option Addr) (c0 : Nat) (l0 : List VIT) (r : Int) (w : World) (hr0 : Kd.C k61 w A0 l0.length l0) (hc0 : l0.length ≤ c0) (h : dirs_Check.f k l0 = some r) :
    Calls Try.prog 11 #[.slice A0 l0.length c0] w fun e w' => e = .returned (.int .i64 r) ∧ Below w.heap.size w w' := by
  unfold dirs_Check.f at h
  have hnot : ∀ (x : Bool) (w : World), (Op.unary .not (.bool x)).run Try.prog w = .ok (.bool (!x)) w := fun _ _ => rfl
  obtain ⟨o, ho, h⟩ := Option.bind_eq_some_iff.mp h
  have HR := Aside0.mk hr0
  have HC := Aside0.mk hc0
  have HO := Aside0.mk ho
  clear hr0 hc0 ho
  cases o with
  | none =>
    obtain rfl := Option.some.inj h
    clear h
    go_enter Try.func11, Try.ntmps11
    go_wp2_with (first
      | (go_at_call 14; refine (vopen_calls A0 c0 l0 _).mono ?_; rintro e w1 ⟨g, rfl, hg, hb1, hB1⟩; have GG := Aside0.mk hg; have O1 := Aside0.mk hb1; have B1 := Aside0.mk hB1; have Z1 := Aside0.mk (show w.heap.size ≤ w1.heap.size from B1.out.size); clear hg hb1 hB1)
      | (go_at_call 15; refine (right_calls k g A0 c0 l0 0 none _ O1.out (Kd.C_foot_came (Kd.heap_iso _ (Kd.heap_pair Kd.heap_string Kd.heap_string)) HR.out B1.out GG.out) HC.out HO.out).mono ?_; rintro e w2 ⟨rfl, hf2, hv2⟩; have B2 := Aside0.mk (B1.out.trans (hf2.2 w.heap.size GG.out Z1.out)); clear hf2 hv2))
    go_ret
    exact ⟨rfl, B2.out⟩
  | some s =>
    obtain rfl := Option.some.inj h
    clear h
    go_enter Try.func11, Try.ntmps11
    go_wp2_with (first
      | (go_at_call 14; refine (vopen_calls A0 c0 l0 _).mono ?_; rintro e w1 ⟨g, rfl, hg, hb1, hB1⟩; have GG := Aside0.mk hg; have O1 := Aside0.mk hb1; have B1 := Aside0.mk hB1; have Z1 := Aside0.mk (show w.heap.size ≤ w1.heap.size from B1.out.size); clear hg hb1 hB1)
      | (go_at_call 15; refine (right_calls k g A0 c0 l0 0 (some s) _ O1.out (Kd.C_foot_came (Kd.heap_iso _ (Kd.heap_pair Kd.heap_string Kd.heap_string)) HR.out B1.out GG.out) HC.out HO.out).mono ?_; rintro e w2 ⟨rfl, hf2, hv2⟩; have B2 := Aside0.mk (B1.out.trans (hf2.2 w.heap.size GG.out Z1.out)); have V2 := Aside0.mk (hv2 s rfl); have R2 := Aside0.mk (Kd.C_below HR.out B2.out); clear hf2 hv2))
    go_ret
    exact ⟨rfl, B2.out⟩
def dirs_Next.f (k : Nat) (l0 : List VIT) : Option (Int × Int) := (lookF k l0).bind fun o => match o with | none => some (0, 9) | some s => (nextL s.ino k 2).bind fun n => some (n, 0)
theorem dirs_Next.mono : ∀ a0 k, LeO (dirs_Next.f k a0) (dirs_Next.f (k + 1) a0) := fun a0 k => by
  unfold dirs_Next.f
  refine LeO.bind (lookF.mono _ _) (fun o => ?_)
  cases o with
  | none => exact LeO.refl _
  | some s => exact LeO.bind (nextL.mono _ _ _) (fun _ => LeO.refl _)
set_option maxRecDepth 100000 in
set_option maxHeartbeats 3200000 in
theorem dirs_Next.calls (k : Nat) (A0 : Option Addr) (c0 : Nat) (l0 : List VIT) (r1 r2 : Int) (w : World) (hr0 : Kd.C k61 w A0 l0.length l0) (hc0 : l0.length ≤ c0) (h : dirs_Next.f k l0 = some (r1, r2)) :
    Calls Try.prog 12 #[.slice A0 l0.length c0] w fun e w' => e = .returned (.tuple #[.int .u32 r1, .int .i64 r2]) ∧ Below w.heap.size w w' := by
  unfold dirs_Next.f at h
  have hnot : ∀ (x : Bool) (w : World), (Op.unary .not (.bool x)).run Try.prog w = .ok (.bool (!x)) w := fun _ _ => rfl
  obtain ⟨o, ho, h⟩ := Option.bind_eq_some_iff.mp h
  have HR := Aside0.mk hr0
  have HC := Aside0.mk hc0
  have HO := Aside0.mk ho
  clear hr0 hc0 ho
  cases o with
  | none =>
    have h := Option.some.inj h
    simp only [Prod.mk.injEq] at h
    obtain ⟨rfl, rfl⟩ := h
    go_enter Try.func12, Try.ntmps12
    go_wp2_with (first
      | (go_at_call 14; refine (vopen_calls A0 c0 l0 _).mono ?_; rintro e w1 ⟨g, rfl, hg, hb1, hB1⟩; have GG := Aside0.mk hg; have O1 := Aside0.mk hb1; have B1 := Aside0.mk hB1; have Z1 := Aside0.mk (show w.heap.size ≤ w1.heap.size from B1.out.size); clear hg hb1 hB1)
      | (go_at_call 15; refine (right_calls k g A0 c0 l0 0 none _ O1.out (Kd.C_foot_came (Kd.heap_iso _ (Kd.heap_pair Kd.heap_string Kd.heap_string)) HR.out B1.out GG.out) HC.out HO.out).mono ?_; rintro e w2 ⟨rfl, hf2, hv2⟩; have B2 := Aside0.mk (B1.out.trans (hf2.2 w.heap.size GG.out Z1.out)); clear hf2 hv2))
    go_ret2
    exact ⟨rfl, B2.out⟩
  | some s =>
    obtain ⟨n, hn, h⟩ := Option.bind_eq_some_iff.mp h
    have HN := Aside0.mk hn
    have h := Option.some.inj h
    simp only [Prod.mk.injEq] at h
    obtain ⟨rfl, rfl⟩ := h
    clear hn
    go_enter Try.func12, Try.ntmps12
    go_wp2_with (first
      | (go_at_call 14; refine (vopen_calls A0 c0 l0 _).mono ?_; rintro e w1 ⟨g, rfl, hg, hb1, hB1⟩; have GG := Aside0.mk hg; have O1 := Aside0.mk hb1; have B1 := Aside0.mk hB1; have Z1 := Aside0.mk (show w.heap.size ≤ w1.heap.size from B1.out.size); clear hg hb1 hB1)
      | (go_at_call 15; refine (right_calls k g A0 c0 l0 0 (some s) _ O1.out (Kd.C_foot_came (Kd.heap_iso _ (Kd.heap_pair Kd.heap_string Kd.heap_string)) HR.out B1.out GG.out) HC.out HO.out).mono ?_; rintro e w2 ⟨rfl, hf2, hv2⟩; have B2 := Aside0.mk (B1.out.trans (hf2.2 w.heap.size GG.out Z1.out)); have V2 := Aside0.mk (hv2 s rfl); have R2 := Aside0.mk (Kd.C_below HR.out B2.out); clear hf2 hv2)
      | (go_at_call 19; refine (next_calls k g w1.heap.size _ 1 0 0 true s n _ V2.out HN.out).mono ?_; rintro e w3 ⟨rfl, hb3⟩; have B3 := Aside0.mk (below_step B2.out hb3); clear hb3))
    go_ret2
    exact ⟨rfl, B3.out⟩
def dirs_Walk.f (k : Nat) (l0 : List VIT) (names : List ByteArray) (follow : Bool) : Option (Int × Int) := (lookF k l0).bind fun o => match o with | none => some (0, 9) | some s => walkL l0 s follow k names 1 0
theorem dirs_Walk.mono : ∀ a0 a1 a2 k, LeO (dirs_Walk.f k a0 a1 a2) (dirs_Walk.f (k + 1) a0 a1 a2) := fun a0 a1 a2 k => by
  unfold dirs_Walk.f
  refine LeO.bind (lookF.mono _ _) (fun o => ?_)
  cases o with
  | none => exact LeO.refl _
  | some s => exact walkL.mono _ _ _ _ _ _ _
set_option maxRecDepth 100000 in
set_option maxHeartbeats 3200000 in
theorem dirs_Walk.calls (k : Nat) (A0 : Option Addr) (c0 : Nat) (l0 : List VIT) (A1 : Option Addr) (c1 : Nat) (l1 : List ByteArray) (a2 : Bool) (r1 r2 : Int) (w : World) (hr0 : Kd.C k61 w A0 l0.length l0) (hc0 : l0.length ≤ c0) (hr1 : Kd.C Kd.string w A1 l1.length l1) (hc1 : l1.length ≤ c1) (h : dirs_Walk.f k l0 l1 a2 = some (r1, r2)) :
    Calls Try.prog 8 #[.slice A0 l0.length c0, .slice A1 l1.length c1, .bool a2] w fun e w' => e = .returned (.tuple #[.int .u32 r1, .int .i64 r2]) ∧ Below w.heap.size w w' := by
  unfold dirs_Walk.f at h
  have HR1 := Aside0.mk hr1
  have HC1 := Aside0.mk hc1
  clear hr1 hc1
  have hnot : ∀ (x : Bool) (w : World), (Op.unary .not (.bool x)).run Try.prog w = .ok (.bool (!x)) w := fun _ _ => rfl
  obtain ⟨o, ho, h⟩ := Option.bind_eq_some_iff.mp h
  have HR := Aside0.mk hr0
  have HC := Aside0.mk hc0
  have HO := Aside0.mk ho
  clear hr0 hc0 ho
  cases o with
  | none =>
    have h := Option.some.inj h
    simp only [Prod.mk.injEq] at h
    obtain ⟨rfl, rfl⟩ := h
    go_enter Try.func8, Try.ntmps8
    go_wp2_with (first
      | (go_at_call 14; refine (vopen_calls A0 c0 l0 _).mono ?_; rintro e w1 ⟨g, rfl, hg, hb1, hB1⟩; have GG := Aside0.mk hg; have O1 := Aside0.mk hb1; have B1 := Aside0.mk hB1; have Z1 := Aside0.mk (show w.heap.size ≤ w1.heap.size from B1.out.size); clear hg hb1 hB1)
      | (go_at_call 15; refine (right_calls k g A0 c0 l0 0 none _ O1.out (Kd.C_foot_came (Kd.heap_iso _ (Kd.heap_pair Kd.heap_string Kd.heap_string)) HR.out B1.out GG.out) HC.out HO.out).mono ?_; rintro e w2 ⟨rfl, hf2, hv2⟩; have B2 := Aside0.mk (B1.out.trans (hf2.2 w.heap.size GG.out Z1.out)); clear hf2 hv2))
    go_ret2
    exact ⟨rfl, B2.out⟩
  | some s =>
    have HH := Aside0.mk h
    clear h
    go_enter Try.func8, Try.ntmps8
    go_wp2_with (first
      | (go_at_call 14; refine (vopen_calls A0 c0 l0 _).mono ?_; rintro e w1 ⟨g, rfl, hg, hb1, hB1⟩; have GG := Aside0.mk hg; have O1 := Aside0.mk hb1; have B1 := Aside0.mk hB1; have Z1 := Aside0.mk (show w.heap.size ≤ w1.heap.size from B1.out.size); clear hg hb1 hB1)
      | (go_at_call 15; refine (right_calls k g A0 c0 l0 0 (some s) _ O1.out (Kd.C_foot_came (Kd.heap_iso _ (Kd.heap_pair Kd.heap_string Kd.heap_string)) HR.out B1.out GG.out) HC.out HO.out).mono ?_; rintro e w2 ⟨rfl, hf2, hv2⟩; have B2 := Aside0.mk (B1.out.trans (hf2.2 w.heap.size GG.out Z1.out)); have V2 := Aside0.mk (hv2 s rfl); have R2 := Aside0.mk (Kd.C_below HR.out B2.out); clear hf2 hv2)
      | (go_at_call 16; refine (walk_calls k g w1.heap.size A0 c0 l0 0 s A1 c1 l1 a2 r1 r2 _ V2.out R2.out HC.out (Kd.C_below HR1.out B2.out) HC1.out HH.out).mono ?_; rintro e w3 ⟨rfl, hb3⟩; have B3 := Aside0.mk (below_step B2.out hb3); clear hb3))
    go_ret2
    exact ⟨rfl, B3.out⟩
def dirs_Get.f (k : Nat) (l0 : List VIT) (ino : Int) : Option (Int × Int × Int × Int × ByteArray × Int) := if 0 ≤ ino ∧ ino < 4294967296 then ((lookF k l0).bind fun o => match o with | none => some (0, 0, 0, 0, ⟨#[]⟩, 9) | some s => match s.ino ino with | none => some (0, 0, 0, 0, ⟨#[]⟩, 5) | some n => some (n.kd, n.md, n.ln, n.sz, n.tg, 0)) else none
theorem dirs_Get.mono : ∀ a0 a1 k, LeO (dirs_Get.f k a0 a1) (dirs_Get.f (k + 1) a0 a1) := fun a0 a1 k => by
  unfold dirs_Get.f
  exact LeO.ite (LeO.bind (lookF.mono _ _) (fun _ => LeO.refl _)) (LeO.none _)
set_option maxRecDepth 100000 in
set_option maxHeartbeats 3200000 in
theorem dirs_Get.calls (k : Nat) (A0 : Option Addr) (c0 : Nat) (l0 : List VIT) (a1 : Int) (r1 r2 r3 r4 : Int) (r5 : ByteArray) (r6 : Int) (w : World) (hr0 : Kd.C k61 w A0 l0.length l0) (hc0 : l0.length ≤ c0) (h : dirs_Get.f k l0 a1 = some (r1, r2, r3, r4, r5, r6)) :
    Calls Try.prog 10 #[.slice A0 l0.length c0, .int .u32 a1] w fun e w' => e = .returned (.tuple #[.agg #[.int .u8 r1, .int .u16 r2, .int .u32 r3, .int .u32 r4, .string r5], .int .i64 r6]) ∧ Below w.heap.size w w' := by
  unfold dirs_Get.f at h
  split at h
  case isFalse => cases h
  case isTrue ha =>
  have HA := Aside0.mk ha
  clear ha
  have hnot : ∀ (x : Bool) (w : World), (Op.unary .not (.bool x)).run Try.prog w = .ok (.bool (!x)) w := fun _ _ => rfl
  obtain ⟨o, ho, h⟩ := Option.bind_eq_some_iff.mp h
  have HR := Aside0.mk hr0
  have HC := Aside0.mk hc0
  have HO := Aside0.mk ho
  clear hr0 hc0 ho
  cases o with
  | none =>
    have h := Option.some.inj h
    simp only [Prod.mk.injEq] at h
    obtain ⟨rfl, rfl, rfl, rfl, rfl, rfl⟩ := h
    go_enter Try.func10, Try.ntmps10
    go_wp2_with (first
      | ((with_reducible refine gate_dst (N := 4) rfl ?_); refine box_event ?hg (N := 4) ?hd (cs := #[.int .u8 0, .int .u16 0, .int .u32 0, .int .u32 0, .string ⟨#[]⟩]) (t := 37) ?hr ?_; (case hd => rfl); (case hg => rfl); (case hr => first | (go_simp; done) | (go_simp; rfl)); intro gr hgr w0 hx hb; have R0 := Aside0.mk hx; have B0 := Aside0.mk hb; have GR := Aside0.mk (show w.heap.size ≤ gr by rw [hgr]; exact Nat.le_refl _); clear hx hb hgr)
      | (go_at_call 14; refine (vopen_calls A0 c0 l0 _).mono ?_; rintro e w1 ⟨g, rfl, hg, hb1, hB1⟩; have GG := Aside0.mk (Nat.le_trans B0.out.size hg); have O1 := Aside0.mk hb1; have B1 := Aside0.mk (below_step B0.out hB1); have R1 := Aside0.mk (blk_below R0.out hB1); have N1 := Aside0.mk (show gr ≠ g by have := blk_lt R0.out; omega); have Z1 := Aside0.mk (show w.heap.size ≤ w1.heap.size from B1.out.size); clear hg hb1 hB1)
      | (go_at_call 15; refine (right_calls k g A0 c0 l0 0 none _ O1.out (Kd.C_foot_came (Kd.heap_iso _ (Kd.heap_pair Kd.heap_string Kd.heap_string)) HR.out B1.out GG.out) HC.out HO.out).mono ?_; rintro e w2 ⟨rfl, hf2, hv2⟩; have B2 := Aside0.mk (B1.out.trans (hf2.2 w.heap.size GG.out Z1.out)); have R2 := Aside0.mk (KeepBut.blk hf2.1 R1.out N1.out (by simp)); have r0 : w2.cell? ⟨gr, 0, none⟩ = some (.int .u8 0) := (blk_cell R2.out 0).trans rfl; have r1 : w2.cell? ⟨gr, 1, none⟩ = some (.int .u16 0) := (blk_cell R2.out 1).trans rfl; have r2 : w2.cell? ⟨gr, 2, none⟩ = some (.int .u32 0) := (blk_cell R2.out 2).trans rfl; have r3 : w2.cell? ⟨gr, 3, none⟩ = some (.int .u32 0) := (blk_cell R2.out 3).trans rfl; have r4 : w2.cell? ⟨gr, 4, none⟩ = some (.string ⟨#[]⟩) := (blk_cell R2.out 4).trans rfl; have f0 : w2.frozen? ⟨gr, 0, none⟩ = false := blk_frozen R2.out 0; have f1 : w2.frozen? ⟨gr, 1, none⟩ = false := blk_frozen R2.out 1; have f2 : w2.frozen? ⟨gr, 2, none⟩ = false := blk_frozen R2.out 2; have f3 : w2.frozen? ⟨gr, 3, none⟩ = false := blk_frozen R2.out 3; have f4 : w2.frozen? ⟨gr, 4, none⟩ = false := blk_frozen R2.out 4; clear hf2 hv2))
    obtain ⟨hR9, hB9⟩ := lay5 (.int .u8 0) (.int .u16 0) (.int .u32 0) (.int .u32 0) (.string ⟨#[]⟩) R2.out B2.out GR.out
    refine bodyPost_ret (results_ct rfl _ _ gr 37 #[.int .u8 0, .int .u16 0, .int .u32 0, .int .u32 0, .string ⟨#[]⟩] (0, 0) _ rfl hR9 Try.underlying37 rfl (by kernel_rfl)) rfl ?_
    exact ⟨rfl, hB9⟩
  | some s =>
    cases hq : s.ino a1 with
    | none =>
      simp only [hq] at h
      have h := Option.some.inj h
      simp only [Prod.mk.injEq] at h
      obtain ⟨rfl, rfl, rfl, rfl, rfl, rfl⟩ := h
      obtain ⟨n, hn⟩ : ∃ n, n = (s.ino a1).getD zI := ⟨_, rfl⟩
      have HN := Aside0.mk hn
      obtain ⟨b, hb⟩ : ∃ b, b = (s.ino a1).isSome := ⟨_, rfl⟩
      have HB := Aside0.mk hb
      obtain rfl : b = false := by rw [hb, hq]; rfl
      clear hn hb hq
      go_enter Try.func10, Try.ntmps10
      go_wp2_with (first
        | ((with_reducible refine gate_dst (N := 4) rfl ?_); refine box_event ?hg (N := 4) ?hd (cs := #[.int .u8 0, .int .u16 0, .int .u32 0, .int .u32 0, .string ⟨#[]⟩]) (t := 37) ?hr ?_; (case hd => rfl); (case hg => rfl); (case hr => first | (go_simp; done) | (go_simp; rfl)); intro gr hgr w0 hx hb; have R0 := Aside0.mk hx; have B0 := Aside0.mk hb; have GR := Aside0.mk (show w.heap.size ≤ gr by rw [hgr]; exact Nat.le_refl _); clear hx hb hgr)
        | (go_at_call 14; refine (vopen_calls A0 c0 l0 _).mono ?_; rintro e w1 ⟨g, rfl, hg, hb1, hB1⟩; have GG := Aside0.mk (Nat.le_trans B0.out.size hg); have O1 := Aside0.mk hb1; have B1 := Aside0.mk (below_step B0.out hB1); have R1 := Aside0.mk (blk_below R0.out hB1); have N1 := Aside0.mk (show gr ≠ g by have := blk_lt R0.out; omega); have Z1 := Aside0.mk (show w.heap.size ≤ w1.heap.size from B1.out.size); clear hg hb1 hB1)
        | (go_at_call 15; refine (right_calls k g A0 c0 l0 0 (some s) _ O1.out (Kd.C_foot_came (Kd.heap_iso _ (Kd.heap_pair Kd.heap_string Kd.heap_string)) HR.out B1.out GG.out) HC.out HO.out).mono ?_; rintro e w2 ⟨rfl, hf2, hv2⟩; have B2 := Aside0.mk (B1.out.trans (hf2.2 w.heap.size GG.out Z1.out)); have R2 := Aside0.mk (KeepBut.blk hf2.1 R1.out N1.out (by simp)); have V2 := Aside0.mk (hv2 s rfl); clear hf2 hv2)
        | (go_at_call 17; refine (inode_calls g w1.heap.size _ 1 0 0 true s a1 n false _ V2.out HA.out HN.out HB.out).mono ?_; rintro e w3 ⟨rfl, hb3⟩; have B3 := Aside0.mk (below_step B2.out hb3); have R3 := Aside0.mk (blk_below R2.out hb3); clear hb3)
        | ((with_reducible refine gate_dst (N := 7) rfl ?_); refine var_event (N := 7) (T := 37) (n := 5) (zc := #[.int .u8 0, .int .u16 0, .int .u32 0, .int .u32 0, .string ⟨#[]⟩]) (cs := #[.int .u8 n.kd, .int .u16 n.md, .int .u32 n.ln, .int .u32 n.sz, .string n.tg]) rfl rfl rfl (.tmp 19) rfl rfl ?hr (by kernel_rfl) rfl rfl rfl ?hx ?hN ?_; (case hx => intro p_; rfl); (case hN => intro p_; rfl); (case hr => first | (go_simp; done) | (go_simp; rfl)); intro gn hgn w4 hx hb; have N4 := Aside0.mk hx; have R4 := Aside0.mk (blk_below R3.out hb); have B4 := Aside0.mk (below_step B3.out hb); have n0 : w4.cell? ⟨gn, 0, none⟩ = some (.int .u8 n.kd) := (blk_cell N4.out 0).trans rfl; have n1 : w4.cell? ⟨gn, 1, none⟩ = some (.int .u16 n.md) := (blk_cell N4.out 1).trans rfl; have n2 : w4.cell? ⟨gn, 2, none⟩ = some (.int .u32 n.ln) := (blk_cell N4.out 2).trans rfl; have n3 : w4.cell? ⟨gn, 3, none⟩ = some (.int .u32 n.sz) := (blk_cell N4.out 3).trans rfl; have n4 : w4.cell? ⟨gn, 4, none⟩ = some (.string n.tg) := (blk_cell N4.out 4).trans rfl; have r0 : w4.cell? ⟨gr, 0, none⟩ = some (.int .u8 0) := (blk_cell R4.out 0).trans rfl; have r1 : w4.cell? ⟨gr, 1, none⟩ = some (.int .u16 0) := (blk_cell R4.out 1).trans rfl; have r2 : w4.cell? ⟨gr, 2, none⟩ = some (.int .u32 0) := (blk_cell R4.out 2).trans rfl; have r3 : w4.cell? ⟨gr, 3, none⟩ = some (.int .u32 0) := (blk_cell R4.out 3).trans rfl; have r4 : w4.cell? ⟨gr, 4, none⟩ = some (.string ⟨#[]⟩) := (blk_cell R4.out 4).trans rfl; have f0 : w4.frozen? ⟨gr, 0, none⟩ = false := blk_frozen R4.out 0; have f1 : w4.frozen? ⟨gr, 1, none⟩ = false := blk_frozen R4.out 1; have f2 : w4.frozen? ⟨gr, 2, none⟩ = false := blk_frozen R4.out 2; have f3 : w4.frozen? ⟨gr, 3, none⟩ = false := blk_frozen R4.out 3; have f4 : w4.frozen? ⟨gr, 4, none⟩ = false := blk_frozen R4.out 4; clear hx hb hgn))
      obtain ⟨hR9, hB9⟩ := lay5 (.int .u8 0) (.int .u16 0) (.int .u32 0) (.int .u32 0) (.string ⟨#[]⟩) R4.out B4.out GR.out
      refine bodyPost_ret (results_ct rfl _ _ gr 37 #[.int .u8 0, .int .u16 0, .int .u32 0, .int .u32 0, .string ⟨#[]⟩] (0, 0) _ rfl hR9 Try.underlying37 rfl (by kernel_rfl)) rfl ?_
      exact ⟨rfl, hB9⟩
    | some n =>
      simp only [hq] at h
      have h := Option.some.inj h
      simp only [Prod.mk.injEq] at h
      obtain ⟨rfl, rfl, rfl, rfl, rfl, rfl⟩ := h
      have HN := Aside0.mk (show n = (s.ino a1).getD zI by rw [hq]; rfl)
      have HB := Aside0.mk (show true = (s.ino a1).isSome by rw [hq]; rfl)
      clear hq
      go_enter Try.func10, Try.ntmps10
      go_wp2_with (first
        | ((with_reducible refine gate_dst (N := 4) rfl ?_); refine box_event ?hg (N := 4) ?hd (cs := #[.int .u8 0, .int .u16 0, .int .u32 0, .int .u32 0, .string ⟨#[]⟩]) (t := 37) ?hr ?_; (case hd => rfl); (case hg => rfl); (case hr => first | (go_simp; done) | (go_simp; rfl)); intro gr hgr w0 hx hb; have R0 := Aside0.mk hx; have B0 := Aside0.mk hb; have GR := Aside0.mk (show w.heap.size ≤ gr by rw [hgr]; exact Nat.le_refl _); clear hx hb hgr)
        | (go_at_call 14; refine (vopen_calls A0 c0 l0 _).mono ?_; rintro e w1 ⟨g, rfl, hg, hb1, hB1⟩; have GG := Aside0.mk (Nat.le_trans B0.out.size hg); have O1 := Aside0.mk hb1; have B1 := Aside0.mk (below_step B0.out hB1); have R1 := Aside0.mk (blk_below R0.out hB1); have N1 := Aside0.mk (show gr ≠ g by have := blk_lt R0.out; omega); have Z1 := Aside0.mk (show w.heap.size ≤ w1.heap.size from B1.out.size); clear hg hb1 hB1)
        | (go_at_call 15; refine (right_calls k g A0 c0 l0 0 (some s) _ O1.out (Kd.C_foot_came (Kd.heap_iso _ (Kd.heap_pair Kd.heap_string Kd.heap_string)) HR.out B1.out GG.out) HC.out HO.out).mono ?_; rintro e w2 ⟨rfl, hf2, hv2⟩; have B2 := Aside0.mk (B1.out.trans (hf2.2 w.heap.size GG.out Z1.out)); have R2 := Aside0.mk (KeepBut.blk hf2.1 R1.out N1.out (by simp)); have V2 := Aside0.mk (hv2 s rfl); clear hf2 hv2)
        | (go_at_call 17; refine (inode_calls g w1.heap.size _ 1 0 0 true s a1 n true _ V2.out HA.out HN.out HB.out).mono ?_; rintro e w3 ⟨rfl, hb3⟩; have B3 := Aside0.mk (below_step B2.out hb3); have R3 := Aside0.mk (blk_below R2.out hb3); clear hb3)
        | ((with_reducible refine gate_dst (N := 7) rfl ?_); refine var_event (N := 7) (T := 37) (n := 5) (zc := #[.int .u8 0, .int .u16 0, .int .u32 0, .int .u32 0, .string ⟨#[]⟩]) (cs := #[.int .u8 n.kd, .int .u16 n.md, .int .u32 n.ln, .int .u32 n.sz, .string n.tg]) rfl rfl rfl (.tmp 19) rfl rfl ?hr (by kernel_rfl) rfl rfl rfl ?hx ?hN ?_; (case hx => intro p_; rfl); (case hN => intro p_; rfl); (case hr => first | (go_simp; done) | (go_simp; rfl)); intro gn hgn w4 hx hb; have N4 := Aside0.mk hx; have R4 := Aside0.mk (blk_below R3.out hb); have B4 := Aside0.mk (below_step B3.out hb); have n0 : w4.cell? ⟨gn, 0, none⟩ = some (.int .u8 n.kd) := (blk_cell N4.out 0).trans rfl; have n1 : w4.cell? ⟨gn, 1, none⟩ = some (.int .u16 n.md) := (blk_cell N4.out 1).trans rfl; have n2 : w4.cell? ⟨gn, 2, none⟩ = some (.int .u32 n.ln) := (blk_cell N4.out 2).trans rfl; have n3 : w4.cell? ⟨gn, 3, none⟩ = some (.int .u32 n.sz) := (blk_cell N4.out 3).trans rfl; have n4 : w4.cell? ⟨gn, 4, none⟩ = some (.string n.tg) := (blk_cell N4.out 4).trans rfl; have r0 : w4.cell? ⟨gr, 0, none⟩ = some (.int .u8 0) := (blk_cell R4.out 0).trans rfl; have r1 : w4.cell? ⟨gr, 1, none⟩ = some (.int .u16 0) := (blk_cell R4.out 1).trans rfl; have r2 : w4.cell? ⟨gr, 2, none⟩ = some (.int .u32 0) := (blk_cell R4.out 2).trans rfl; have r3 : w4.cell? ⟨gr, 3, none⟩ = some (.int .u32 0) := (blk_cell R4.out 3).trans rfl; have r4 : w4.cell? ⟨gr, 4, none⟩ = some (.string ⟨#[]⟩) := (blk_cell R4.out 4).trans rfl; have f0 : w4.frozen? ⟨gr, 0, none⟩ = false := blk_frozen R4.out 0; have f1 : w4.frozen? ⟨gr, 1, none⟩ = false := blk_frozen R4.out 1; have f2 : w4.frozen? ⟨gr, 2, none⟩ = false := blk_frozen R4.out 2; have f3 : w4.frozen? ⟨gr, 3, none⟩ = false := blk_frozen R4.out 3; have f4 : w4.frozen? ⟨gr, 4, none⟩ = false := blk_frozen R4.out 4; clear hx hb hgn))
      obtain ⟨hR9, hB9⟩ := lay5 (.int .u8 n.kd) (.int .u16 n.md) (.int .u32 n.ln) (.int .u32 n.sz) (.string n.tg) R4.out B4.out GR.out
      refine bodyPost_ret (results_ct rfl _ _ gr 37 #[.int .u8 n.kd, .int .u16 n.md, .int .u32 n.ln, .int .u32 n.sz, .string n.tg] (0, 0) _ rfl hR9 Try.underlying37 rfl (by kernel_rfl)) rfl ?_
      exact ⟨rfl, hB9⟩
def dirs_List.f (k : Nat) (l0 : List VIT) (ino : Int) : Option (List S34 × Int) := if 0 ≤ ino ∧ ino < 4294967296 then ((lookF k l0).bind fun o => match o with | none => some ([], 9) | some s => match s.ino ino with | none => some ([], 5) | some n => if n.kd = 1 then (listL k s ino s.all []).bind fun r => some (r, 0) else some ([], 12)) else none
theorem dirs_List.mono : ∀ a0 a1 k, LeO (dirs_List.f k a0 a1) (dirs_List.f (k + 1) a0 a1) := fun a0 a1 k => by
  unfold dirs_List.f
  refine LeO.ite (LeO.bind (lookF.mono _ _) (fun o => ?_)) (LeO.none _)
  cases o with
  | none => exact LeO.refl _
  | some s =>
    cases h : s.ino a1 with
    | none => simp only [h]; exact LeO.refl _
    | some n => simp only [h]; exact LeO.ite (LeO.bind (listL.mono _ _ _ _ _) (fun _ => LeO.refl _)) (LeO.refl _)
set_option maxRecDepth 100000 in
set_option maxHeartbeats 3200000 in
theorem dirs_List.calls (k : Nat) (A0 : Option Addr) (c0 : Nat) (l0 : List VIT) (a1 : Int) (r1 : List S34) (r2 : Int) (w : World) (hr0 : Kd.C k61 w A0 l0.length l0) (hc0 : l0.length ≤ c0) (h : dirs_List.f k l0 a1 = some (r1, r2)) :
    Calls Try.prog 9 #[.slice A0 l0.length c0, .int .u32 a1] w fun e w' => ∃ v0_ : Value, e = .returned (.tuple #[v0_, .int .i64 r2]) ∧ k34.R 34 w' w.heap.size (fun _ => True) v0_ r1 ∧ Below w.heap.size w w' := by
  unfold dirs_List.f at h
  split at h
  case isFalse => cases h
  case isTrue ha =>
  have HA := Aside0.mk ha
  clear ha
  have hnot : ∀ (x : Bool) (w : World), (Op.unary .not (.bool x)).run Try.prog w = .ok (.bool (!x)) w := fun _ _ => rfl
  obtain ⟨o, ho, h⟩ := Option.bind_eq_some_iff.mp h
  have HR := Aside0.mk hr0
  have HC := Aside0.mk hc0
  have HO := Aside0.mk ho
  clear hr0 hc0 ho
  cases o with
  | none =>
    have h := Option.some.inj h
    simp only [Prod.mk.injEq] at h
    obtain ⟨rfl, rfl⟩ := h
    go_enter Try.func9, Try.ntmps9
    go_wp2_with (first
      | (go_at_call 14; refine (vopen_calls A0 c0 l0 _).mono ?_; rintro e w1 ⟨g, rfl, hg, hb1, hB1⟩; have GG := Aside0.mk hg; have O1 := Aside0.mk hb1; have B1 := Aside0.mk hB1; have Z1 := Aside0.mk (show w.heap.size ≤ w1.heap.size from B1.out.size); clear hg hb1 hB1)
      | (go_at_call 15; refine (right_calls k g A0 c0 l0 0 none _ O1.out (Kd.C_foot_came (Kd.heap_iso _ (Kd.heap_pair Kd.heap_string Kd.heap_string)) HR.out B1.out GG.out) HC.out HO.out).mono ?_; rintro e w2 ⟨rfl, hf2, hv2⟩; have B2 := Aside0.mk (B1.out.trans (hf2.2 w.heap.size GG.out Z1.out)); clear hf2 hv2))
    go_ret2
    exact ⟨_, rfl, Kd.R_nil _ _ _ _ _, B2.out⟩
  | some s =>
    cases hq : s.ino a1 with
    | none =>
      simp only [hq] at h
      have h := Option.some.inj h
      simp only [Prod.mk.injEq] at h
      obtain ⟨rfl, rfl⟩ := h
      obtain ⟨n, hn⟩ : ∃ n, n = (s.ino a1).getD zI := ⟨_, rfl⟩
      have HN := Aside0.mk hn
      have HB := Aside0.mk (show false = (s.ino a1).isSome by rw [hq]; rfl)
      clear hn hq
      go_enter Try.func9, Try.ntmps9
      go_wp2_with (first
        | (go_at_call 14; refine (vopen_calls A0 c0 l0 _).mono ?_; rintro e w1 ⟨g, rfl, hg, hb1, hB1⟩; have GG := Aside0.mk hg; have O1 := Aside0.mk hb1; have B1 := Aside0.mk hB1; have Z1 := Aside0.mk (show w.heap.size ≤ w1.heap.size from B1.out.size); clear hg hb1 hB1)
        | (go_at_call 15; refine (right_calls k g A0 c0 l0 0 (some s) _ O1.out (Kd.C_foot_came (Kd.heap_iso _ (Kd.heap_pair Kd.heap_string Kd.heap_string)) HR.out B1.out GG.out) HC.out HO.out).mono ?_; rintro e w2 ⟨rfl, hf2, hv2⟩; have B2 := Aside0.mk (B1.out.trans (hf2.2 w.heap.size GG.out Z1.out)); have V2 := Aside0.mk (hv2 s rfl); have R2 := Aside0.mk (Kd.C_below HR.out B2.out); clear hf2 hv2)
        | (go_at_call 17; refine (inode_calls g w1.heap.size _ 1 0 0 true s a1 n false _ V2.out HA.out HN.out HB.out).mono ?_; rintro e w3 ⟨rfl, hb3⟩; have B3 := Aside0.mk (below_step B2.out hb3); have V3 := Aside0.mk (V2.out.below hb3); clear hb3)
        | ((with_reducible refine gate_dst (N := 7) rfl ?_); refine var_event (N := 7) (T := 37) (n := 5) (zc := #[.int .u8 0, .int .u16 0, .int .u32 0, .int .u32 0, .string ⟨#[]⟩]) (cs := #[.int .u8 n.kd, .int .u16 n.md, .int .u32 n.ln, .int .u32 n.sz, .string n.tg]) rfl rfl rfl (.tmp 18) rfl rfl ?hr (by kernel_rfl) rfl rfl rfl ?hx ?hN ?_; (case hx => intro p_; rfl); (case hN => intro p_; rfl); (case hr => first | (go_simp; done) | (go_simp; rfl)); intro gn hgn w4 hx hb; have N4 := Aside0.mk hx; have V4 := Aside0.mk (V3.out.below hb); have B4 := Aside0.mk (below_step B3.out hb); have n0 : w4.cell? ⟨gn, 0, none⟩ = some (.int .u8 n.kd) := (blk_cell N4.out 0).trans rfl; clear hx hb hgn))
      go_ret2
      exact ⟨_, rfl, Kd.R_nil _ _ _ _ _, B4.out⟩
    | some n =>
      simp only [hq] at h
      have HN := Aside0.mk (show n = (s.ino a1).getD zI by rw [hq]; rfl)
      have HB := Aside0.mk (show true = (s.ino a1).isSome by rw [hq]; rfl)
      clear hq
      by_cases hk : n.kd = 1
      · rw [if_pos hk] at h
        have e0 : (n.kd != 1) = false := bne_eq_false_iff_eq.2 hk
        obtain ⟨rl, hl, h⟩ := Option.bind_eq_some_iff.mp h
        have HL := Aside0.mk hl
        have h := Option.some.inj h
        simp only [Prod.mk.injEq] at h
        obtain ⟨rfl, rfl⟩ := h
        clear hl hk
        go_enter Try.func9, Try.ntmps9
        go_wp2_with (first
          | (go_at_call 14; refine (vopen_calls A0 c0 l0 _).mono ?_; rintro e w1 ⟨g, rfl, hg, hb1, hB1⟩; have GG := Aside0.mk hg; have O1 := Aside0.mk hb1; have B1 := Aside0.mk hB1; have Z1 := Aside0.mk (show w.heap.size ≤ w1.heap.size from B1.out.size); clear hg hb1 hB1)
          | (go_at_call 15; refine (right_calls k g A0 c0 l0 0 (some s) _ O1.out (Kd.C_foot_came (Kd.heap_iso _ (Kd.heap_pair Kd.heap_string Kd.heap_string)) HR.out B1.out GG.out) HC.out HO.out).mono ?_; rintro e w2 ⟨rfl, hf2, hv2⟩; have B2 := Aside0.mk (B1.out.trans (hf2.2 w.heap.size GG.out Z1.out)); have V2 := Aside0.mk (hv2 s rfl); have R2 := Aside0.mk (Kd.C_below HR.out B2.out); clear hf2 hv2)
          | (go_at_call 17; refine (inode_calls g w1.heap.size _ 1 0 0 true s a1 n true _ V2.out HA.out HN.out HB.out).mono ?_; rintro e w3 ⟨rfl, hb3⟩; have B3 := Aside0.mk (below_step B2.out hb3); have V3 := Aside0.mk (V2.out.below hb3); clear hb3)
          | ((with_reducible refine gate_dst (N := 7) rfl ?_); refine var_event (N := 7) (T := 37) (n := 5) (zc := #[.int .u8 0, .int .u16 0, .int .u32 0, .int .u32 0, .string ⟨#[]⟩]) (cs := #[.int .u8 n.kd, .int .u16 n.md, .int .u32 n.ln, .int .u32 n.sz, .string n.tg]) rfl rfl rfl (.tmp 18) rfl rfl ?hr (by kernel_rfl) rfl rfl rfl ?hx ?hN ?_; (case hx => intro p_; rfl); (case hN => intro p_; rfl); (case hr => first | (go_simp; done) | (go_simp; rfl)); intro gn hgn w4 hx hb; have N4 := Aside0.mk hx; have V4 := Aside0.mk (V3.out.below hb); have B4 := Aside0.mk (below_step B3.out hb); have n0 : w4.cell? ⟨gn, 0, none⟩ = some (.int .u8 n.kd) := (blk_cell N4.out 0).trans rfl; clear hx hb hgn)
          | (go_at_call 18; refine (list_calls k g w1.heap.size _ 1 0 0 true s a1 rl _ V4.out HL.out).mono ?_; rintro e w5 ⟨v5, rfl, ho5, hb5⟩; have R5 := Aside0.mk (Kd.R_lower ho5 B4.out.size); have B5 := Aside0.mk (below_step B4.out hb5); clear ho5 hb5 n0))
        go_ret2
        exact ⟨_, rfl, R5.out, B5.out⟩
      · rw [if_neg hk] at h
        have e0 : (n.kd != 1) = true := bne_iff_ne.2 hk
        have h := Option.some.inj h
        simp only [Prod.mk.injEq] at h
        obtain ⟨rfl, rfl⟩ := h
        clear hk
        go_enter Try.func9, Try.ntmps9
        go_wp2_with (first
          | (go_at_call 14; refine (vopen_calls A0 c0 l0 _).mono ?_; rintro e w1 ⟨g, rfl, hg, hb1, hB1⟩; have GG := Aside0.mk hg; have O1 := Aside0.mk hb1; have B1 := Aside0.mk hB1; have Z1 := Aside0.mk (show w.heap.size ≤ w1.heap.size from B1.out.size); clear hg hb1 hB1)
          | (go_at_call 15; refine (right_calls k g A0 c0 l0 0 (some s) _ O1.out (Kd.C_foot_came (Kd.heap_iso _ (Kd.heap_pair Kd.heap_string Kd.heap_string)) HR.out B1.out GG.out) HC.out HO.out).mono ?_; rintro e w2 ⟨rfl, hf2, hv2⟩; have B2 := Aside0.mk (B1.out.trans (hf2.2 w.heap.size GG.out Z1.out)); have V2 := Aside0.mk (hv2 s rfl); have R2 := Aside0.mk (Kd.C_below HR.out B2.out); clear hf2 hv2)
          | (go_at_call 17; refine (inode_calls g w1.heap.size _ 1 0 0 true s a1 n true _ V2.out HA.out HN.out HB.out).mono ?_; rintro e w3 ⟨rfl, hb3⟩; have B3 := Aside0.mk (below_step B2.out hb3); have V3 := Aside0.mk (V2.out.below hb3); clear hb3)
          | ((with_reducible refine gate_dst (N := 7) rfl ?_); refine var_event (N := 7) (T := 37) (n := 5) (zc := #[.int .u8 0, .int .u16 0, .int .u32 0, .int .u32 0, .string ⟨#[]⟩]) (cs := #[.int .u8 n.kd, .int .u16 n.md, .int .u32 n.ln, .int .u32 n.sz, .string n.tg]) rfl rfl rfl (.tmp 18) rfl rfl ?hr (by kernel_rfl) rfl rfl rfl ?hx ?hN ?_; (case hx => intro p_; rfl); (case hN => intro p_; rfl); (case hr => first | (go_simp; done) | (go_simp; rfl)); intro gn hgn w4 hx hb; have N4 := Aside0.mk hx; have V4 := Aside0.mk (V3.out.below hb); have B4 := Aside0.mk (below_step B3.out hb); have n0 : w4.cell? ⟨gn, 0, none⟩ = some (.int .u8 n.kd) := (blk_cell N4.out 0).trans rfl; clear hx hb hgn))
        go_ret2
        exact ⟨_, rfl, Kd.R_nil _ _ _ _ _, B4.out⟩
end Go.Proofs.Ytpnmajblhgnkoaa.Z
end

section
/- Bytes as a text; names. -/
namespace Go.Proofs.Ytpnmajblhgnkoaa.PM
/-- Bytes as a text. -/
def ba (l : List UInt8) : ByteArray := ⟨l.toArray⟩
theorem ba_data (l : List UInt8) : (ba l).data.toList = l := by simp [ba]
theorem ba_toList (l : List UInt8) : (ba l).toList = l := by rw [ByteArray.toList_eq]; exact ba_data l
theorem ba_size (l : List UInt8) : (ba l).size = l.length := by simp [ba, ByteArray.size]
theorem data_ba (s : ByteArray) : ba s.data.toList = s := by cases s; simp [ba]
theorem ba_app (a b : List UInt8) : ba a ++ ba b = ba (a ++ b) := by
  have h : (ba a ++ ba b).data.toList = (ba (a ++ b)).data.toList := by rw [Go.Joins.data_append, ba_data, ba_data, ba_data]
  rw [← data_ba (ba a ++ ba b), h, data_ba]
/-- A name. -/
def nameL (l : List UInt8) : Bool := decide (l ≠ [] ∧ l.length ≤ 24 ∧ 47 ∉ l ∧ 0 ∉ l ∧ l ≠ [46] ∧ l ≠ [46, 46])
theorem nameL_iff {l : List UInt8} : nameL l = true ↔ (l ≠ [] ∧ l.length ≤ 24 ∧ 47 ∉ l ∧ 0 ∉ l ∧ l ≠ [46] ∧ l ≠ [46, 46]) := by simp [nameL]

end Go.Proofs.Ytpnmajblhgnkoaa.PM
end

section
/- Paths and names, as lists of bytes: the plain definitions and their laws (no program in sight). -/
namespace Go.Proofs.Ytpnmajblhgnkoaa.PM
/-- What stands between slashes. -/
def splitL : List UInt8 → List (List UInt8)
  | [] => [[]]
  | c :: cs => if c = 47 then [] :: splitL cs else match splitL cs with
    | h :: t => (c :: h) :: t
    | [] => [[c]]
theorem splitL_ne (l : List UInt8) : splitL l ≠ [] := by
  cases l with
  | nil => simp [splitL]
  | cons c cs =>
    unfold splitL
    split
    · simp
    · split <;> simp
/-- What has been read ahead is put before the first piece. -/
def pre (a : List UInt8) : List (List UInt8) → List (List UInt8)
  | h :: t => (a ++ h) :: t
  | [] => [a]
theorem splitL_cons_ne {c : UInt8} {cs : List UInt8} (h : c ≠ 47) : splitL (c :: cs) = pre [c] (splitL cs) := by
  conv => lhs; unfold splitL
  rw [if_neg h]
  cases splitL cs <;> rfl
theorem splitL_cons_eq (cs : List UInt8) : splitL (47 :: cs) = [] :: splitL cs := by
  conv => lhs; unfold splitL
  rw [if_pos rfl]
theorem pre_pre (a b : List UInt8) (l : List (List UInt8)) : pre a (pre b l) = pre (a ++ b) l := by cases l <;> simp [pre]
theorem pre_nil {l : List (List UInt8)} (h : l ≠ []) : pre [] l = l := by cases l <;> simp_all [pre]
theorem splitL_pre (a l : List UInt8) (h : 47 ∉ a) : splitL (a ++ l) = pre a (splitL l) := by
  induction a with
  | nil => rw [List.nil_append, pre_nil (splitL_ne l)]
  | cons c a ih =>
    rw [List.cons_append, splitL_cons_ne (fun e => h (by simp [e])), ih (fun e => h (by simp [e])), pre_pre]; rfl
theorem splitL_none (l : List UInt8) (h : 47 ∉ l) : splitL l = [l] := by
  have := splitL_pre l [] h
  rw [List.append_nil] at this
  rw [this]; simp [splitL, pre]
theorem splitL_at (a l : List UInt8) (h : 47 ∉ a) : splitL (a ++ 47 :: l) = a :: splitL l := by
  rw [splitL_pre a _ h, splitL_cons_eq]; simp [pre]
/-- Names put together: a slash ahead of each. -/
def joinL (ns : List (List UInt8)) : List UInt8 := ns.flatMap (fun n => 47 :: n)
theorem joinL_splitL (l : List UInt8) : joinL (splitL l) = 47 :: l := by
  induction l with
  | nil => simp [joinL, splitL]
  | cons c cs ih =>
    by_cases hc : c = 47
    · subst hc; rw [splitL_cons_eq]; simp only [joinL, List.flatMap_cons] at *; rw [ih]; rfl
    · rw [splitL_cons_ne hc]
      have hn := splitL_ne cs
      cases hs : splitL cs with
      | nil => exact absurd hs hn
      | cons a t =>
        rw [hs] at ih
        simp only [joinL, List.flatMap_cons, pre] at *
        simp only [List.cons_append, List.cons.injEq, true_and] at ih
        simp [ih]
theorem joinL_length (ns : List (List UInt8)) : (joinL ns).length = ns.length + (ns.map List.length).sum := by
  induction ns with
  | nil => rfl
  | cons n ns ih => simp only [joinL, List.flatMap_cons, List.length_append, List.length_cons, List.map_cons, List.sum_cons] at *; omega
/-- A path's names, why there are none. -/
def pathSpec (p : List UInt8) : List (List UInt8) × Int :=
  if 256 < p.length then ([], 2) else match p with
    | [] => ([], 10)
    | c :: rest => if c = 47 then (if rest = [] then ([], 0) else if (splitL rest).all nameL then (splitL rest, 0) else ([], 10)) else ([], 10)
theorem path_cases (p : List UInt8) : (pathSpec p).2 ≠ 0 ∧ (pathSpec p).1 = [] ∨ (p = [47] ∧ pathSpec p = ([], 0)) ∨ ∃ rest, p = 47 :: rest ∧ rest ≠ [] ∧ p.length ≤ 256 ∧ (splitL rest).all nameL = true ∧ pathSpec p = (splitL rest, 0) := by
  unfold pathSpec
  split
  · left; simp
  · rename_i hlen
    cases p with
    | nil => left; simp
    | cons c rest =>
      simp only
      split
      · rename_i hc; subst hc
        split
        · rename_i hr; subst hr; right; left; simp
        · rename_i hr
          split
          · rename_i ha; right; right; exact ⟨rest, rfl, hr, by omega, ha, rfl⟩
          · left; simp
      · left; simp
end Go.Proofs.Ytpnmajblhgnkoaa.PM
end

section
/- How a round function comes to its answer: the steps. -/
namespace Go.Proofs.Ytpnmajblhgnkoaa.Z
open Go.RowKit Go.Proofs.YtpnmajblhgnkoaaW.PrintWords Go.Proofs.YtpnmajblhgnkoaaW.PrintLast
set_option linter.unusedVariables false
theorem Ev.val {α : Type} {g : Nat → Option α} {a b : α} (h : Ev g a) (e : a = b) : Ev g b := e ▸ h
theorem Ev.const {α : Type} {x : Option α} {r : α} (h : x = some r) : Ev (fun _ => x) r := ⟨0, fun _ _ => h⟩
theorem Ev.ifp {α : Type} {c : Prop} [Decidable c] {f g : Nat → Option α} {r : α} (hc : c) (h : Ev f r) : Ev (fun k => if c then f k else g k) r := Ev.congr (fun k => if_pos hc) h
theorem Ev.ifn {α : Type} {c : Prop} [Decidable c] {f g : Nat → Option α} {r : α} (hc : ¬ c) (h : Ev g r) : Ev (fun k => if c then f k else g k) r := Ev.congr (fun k => if_neg hc) h
theorem Ev.ite {α : Type} {c : Prop} [Decidable c] {f g : Nat → Option α} {r : α} (h : c → Ev f r) (h2 : ¬ c → Ev g r) : Ev (fun k => if c then f k else g k) r := by
  by_cases hc : c
  · exact Ev.ifp hc (h hc)
  · exact Ev.ifn hc (h2 hc)
theorem Ev.bindc {α β : Type} {x : Option α} {f : Nat → α → Option β} {a : α} {r : β} (h : x = some a) (k : Ev (fun n => f n a) r) : Ev (fun n => x.bind (f n)) r := Ev.bind (Ev.const h) k
theorem w64 {i : Int} (h0 : -9223372036854775808 ≤ i) (h1 : i ≤ 9223372036854775807) : wrap64 i = i := by unfold wrap64; omega
theorem bytes_inj {a b : ByteArray} (h : a.toList = b.toList) : a = b := by
  rw [ByteArray.toList_eq, ByteArray.toList_eq] at h
  cases a; cases b; simp_all
end Go.Proofs.Ytpnmajblhgnkoaa.Z
end

section
/- Bytes of texts; the reference's Name. -/
namespace Go.Proofs.Ytpnmajblhgnkoaa.Z
open Go.RowKit Go.Proofs.YtpnmajblhgnkoaaW.PrintWords Go.Proofs.YtpnmajblhgnkoaaW.PrintLast Go.Proofs.Ytpnmajblhgnkoaa.PM
set_option linter.unusedVariables false
theorem index_mem (l : List UInt8) (c : UInt8) : 0 ≤ Lib.indexByte l c ↔ c ∈ l := by
  induction l with
  | nil => simp [Lib.indexByte]
  | cons b l ih =>
    unfold Lib.indexByte
    by_cases hb : b = c
    · subst hb; simp
    · have hb2 : (b == c) = false := by simpa using hb
      rw [hb2]
      by_cases h1 : Lib.indexByte l c = -1
      · have hn : c ∉ l := fun hm => by have := ih.2 hm; omega
        simp [h1, hn, Ne.symm hb]
      · have := Lib.indexByte_ge l c
        have hm : c ∈ l := ih.1 (by omega)
        have h2 : (Lib.indexByte l c == -1) = false := by simpa using h1
        simp [h2, hm]; omega
theorem bt_get (s : ByteArray) (i : Nat) (h : i < s.data.toList.length) : bt s (i : Int) = ((s.data.toList[i]).toNat : Int) := by
  have hs : i < s.size := by rw [Array.length_toList] at h; exact h
  unfold bt
  rw [dif_pos (by simpa using hs)]
  simp only [Int.toNat_natCast, Array.getElem_toList]
  rfl
theorem byte_eq (x : UInt8) (n : Nat) (hn : n < 256) : ((x.toNat : Int) = n) ↔ x = n.toUInt8 := by
  constructor
  · intro h
    have : x.toNat = n := by omega
    rw [← UInt8.toNat_inj]
    simp [this]; omega
  · intro h; subst h; simp; omega
theorem size_len (a : ByteArray) : a.size = a.data.toList.length := by rw [Array.length_toList]; rfl

end Go.Proofs.Ytpnmajblhgnkoaa.Z
end

section
/- path.Name, as printed. -/
namespace Go.Proofs.Ytpnmajblhgnkoaa.Z
open Go.RowKit Go.Proofs.YtpnmajblhgnkoaaW.PrintWords Go.Proofs.YtpnmajblhgnkoaaW.PrintLast Go.Proofs.Ytpnmajblhgnkoaa.PM
set_option linter.unusedSimpArgs false
theorem contains_f (a : ByteArray) (c : UInt8) : strings_Contains.f a ⟨#[c]⟩ = some (decide (c ∈ a.data.toList)) := by
  unfold strings_Contains.f
  rw [dif_pos (by rfl)]
  have hi := index_mem a.data.toList c
  exact congrArg some (by rw [Bool.eq_iff_iff]; simpa using hi)
theorem name_f (a : ByteArray) : path_Name.f a = some (nameL a.data.toList) := by
  unfold path_Name.f nameL
  rw [ByteArray.toList_eq, contains_f, contains_f]
  have hz := size_len a
  by_cases h1 : a.data.toList = []
  · simp [h1]
  · rw [if_neg h1]
    by_cases h2 : (a.size : Int) ≤ 24
    · rw [if_pos h2]
      have h2' : a.data.toList.length ≤ 24 := by omega
      by_cases h3 : 47 ∈ a.data.toList <;> by_cases h4 : 0 ∈ a.data.toList <;> simp [h1, h3, h4]
      by_cases h5 : a.data.toList = [46]
      · have h2d : decide (a.size ≤ 24) = true := by simp; omega
        by_cases h6 : a.data.toList = [46, 46]
        · simp [h6]
        · simp [h5, h6, h2d]
      · have h2d : decide (a.size ≤ 24) = true := by simp; omega
        by_cases h6 : a.data.toList = [46, 46]
        · simp [h6]
        · simp [h5, h6, h2d]
    · rw [if_neg h2, show decide (a.data.toList ≠ [] ∧ a.data.toList.length ≤ 24 ∧ 47 ∉ a.data.toList ∧ 0 ∉ a.data.toList ∧ a.data.toList ≠ [46] ∧ a.data.toList ≠ [46, 46]) = false by simp; omega]
end Go.Proofs.Ytpnmajblhgnkoaa.Z
end

section
/- What the functions of package path, and the reference's, come to: the plain definitions. -/
namespace Go.Proofs.Ytpnmajblhgnkoaa.Z
open Go.RowKit Go.Proofs.YtpnmajblhgnkoaaW.PrintWords Go.Proofs.YtpnmajblhgnkoaaW.PrintLast Go.Proofs.Ytpnmajblhgnkoaa.PM
set_option linter.unusedVariables false
/-! ### Split -/
def baP (x : List (List UInt8) × Int) : List ByteArray × Int := (x.1.map ba, x.2)
theorem cut_f (s : ByteArray) (hs : s.size ≤ 9223372036854775806) :
    (47 ∉ s.data.toList ∧ strings_Cut.f s ⟨#[47]⟩ = some (s, ⟨#[]⟩, false)) ∨
    ∃ a b, s.data.toList = a ++ 47 :: b ∧ 47 ∉ a ∧ strings_Cut.f s ⟨#[47]⟩ = some (ba a, ba b, true) := by
  have hidx : stringslite_Index.f s ⟨#[47]⟩ = some (Lib.indexByte s.data.toList 47) := by unfold stringslite_Index.f; rw [dif_pos (by rfl)]; rfl
  have hz := size_len s
  by_cases h : 0 ≤ Lib.indexByte s.data.toList 47
  · right
    obtain ⟨o, ho⟩ : ∃ o : Nat, Lib.indexByte s.data.toList 47 = o := ⟨_, (Int.toNat_of_nonneg h).symm⟩
    obtain ⟨h1, h2⟩ := Lib.indexByte_some ho
    obtain ⟨hlt, hget⟩ := List.getElem?_eq_some_iff.1 h1
    refine ⟨s.data.toList.take o, s.data.toList.drop (o + 1), ?_, ?_, ?_⟩
    · rw [← hget, ← List.drop_eq_getElem_cons hlt, List.take_append_drop]
    · intro hm
      obtain ⟨j, hj, hje⟩ := List.getElem_of_mem hm
      rw [List.length_take] at hj
      exact h2 j (by omega) (by rw [List.getElem_take] at hje; rw [← hje]; exact List.getElem?_eq_getElem (by omega))
    · unfold strings_Cut.f stringslite_Cut.f
      rw [hidx, ho]
      have s1 : ((⟨#[47]⟩ : ByteArray).size : Int) = 1 := rfl
      simp only [Option.bind_some, s1]
      rw [if_pos (by omega), if_pos (by omega), if_pos (by omega), w64 (by omega) (by omega), if_pos (by omega), if_pos (by omega)]
      simp only [Option.bind_some, Option.some.injEq, Prod.mk.injEq, and_true]
      constructor
      · rw [Lib.extract_eq]; simp [ba]
      · rw [Lib.extract_eq]
        have : ((o : Int) + 1).toNat = o + 1 := by omega
        rw [this, hz]
        unfold ba
        rw [List.take_of_length_le (by simp)]
  · left
    refine ⟨fun hm => h ((index_mem _ _).2 hm), ?_⟩
    unfold strings_Cut.f stringslite_Cut.f
    rw [hidx]
    simp only [Option.bind_some]
    rw [if_neg (by omega)]
    rfl
theorem split_l0 : ∀ (m : Nat) (rest : ByteArray) (acc : List ByteArray), rest.data.toList.length ≤ m → acc.length + rest.data.toList.length ≤ 1000 →
    Ev (fun k => path_Split.l0 k rest acc) (if (splitL rest.data.toList).all nameL then (acc ++ (splitL rest.data.toList).map ba, 0) else ([], 10))
  | m, rest, acc, hm, hb => by
    refine Ev.step (fun k => by rw [path_Split.l0]) ?_
    have hz := size_len rest
    rcases cut_f rest (by omega) with ⟨hno, hc⟩ | ⟨a, b, hab, hno, hc⟩
    · refine Ev.bindc hc (Ev.bindc (name_f _) ?_)
      simp only
      rw [splitL_none _ hno]
      by_cases hn : nameL rest.data.toList = true
      · refine Ev.ifp hn (Ev.ifp (by omega) (Ev.bindc rfl (Ev.ifn (by simp) (Ev.const ?_))))
        simp [hn, data_ba]
      · refine Ev.ifn hn (Ev.const ?_)
        simp [hn]
    · refine Ev.bindc hc (Ev.bindc (name_f _) ?_)
      simp only [ba_data]
      rw [hab, splitL_at _ _ hno]
      have hl : rest.data.toList.length = a.length + b.length + 1 := by rw [hab]; simp; omega
      by_cases hn : nameL a = true
      · refine Ev.ifp hn (Ev.ifp (by omega) (Ev.bindc rfl (Ev.ifp trivial ?_)))
        cases m with
        | zero => omega
        | succ m =>
          have ih := split_l0 m (ba b) (acc ++ [ba a]) (by rw [ba_data]; omega) (by rw [ba_data]; simp; omega)
          rw [ba_data] at ih
          refine Ev.val ih ?_
          simp [hn]
      · refine Ev.ifn hn (Ev.const ?_)
        simp [hn]
theorem cutPrefix_f (s : ByteArray) : strings_CutPrefix.f s ⟨#[47]⟩ = some (match s.data.toList with | 47 :: r => (ba r, true) | _ => (s, false)) := by
  have hz := size_len s
  have s1 : ((⟨#[47]⟩ : ByteArray).size : Int) = 1 := rfl
  have s2 : (⟨#[47]⟩ : ByteArray).toList = [47] := by rw [ByteArray.toList_eq]
  unfold strings_CutPrefix.f stringslite_CutPrefix.f stringslite_HasPrefix.f
  simp only [s1, s2]
  cases hd : s.data.toList with
  | nil =>
    have h0 : s.size = 0 := by rw [hz, hd]; rfl
    rw [if_neg (by omega)]; rfl
  | cons c r =>
    rw [hd] at hz
    simp only [List.length_cons] at hz
    rw [if_pos (by omega), if_pos (by omega), if_pos (by omega)]
    have e1 : (s.extract 0 (1 : Int).toNat).toList = [c] := by rw [Lib.extract_toList, hd]; rfl
    rw [e1]
    by_cases hc : c = 47
    · subst hc
      simp only [Option.bind_some, beq_self_eq_true, if_true]
      rw [if_pos (by omega), if_pos (by omega)]
      simp only [Option.bind_some, Option.some.injEq, Prod.mk.injEq, and_true]
      rw [Lib.extract_eq, hd]
      simp [ba, hz]
    · have hb : ([c] == ([47] : List UInt8)) = false := by simpa using hc
      rw [hb]
      simp only [Option.bind_some]
      rw [if_neg (by simp)]
      split
      · rename_i heq; injection heq with h1 _; exact absurd h1 hc
      · rfl
theorem split_f (p : ByteArray) : Ev (fun k => path_Split.f k p) (baP (pathSpec p.data.toList)) := by
  have hz := size_len p
  unfold path_Split.f pathSpec
  by_cases h256 : (p.size : Int) > 256
  · refine Ev.ifp h256 (Ev.const ?_)
    rw [if_pos (by omega)]; rfl
  · refine Ev.ifn h256 (Ev.bindc (cutPrefix_f p) ?_)
    rw [if_neg (by omega)]
    cases hd : p.data.toList with
    | nil => exact Ev.ifn (by simp) (Ev.const rfl)
    | cons c r =>
      by_cases hc : c = 47
      · subst hc
        refine Ev.ifp rfl ?_
        simp only
        by_cases hr : r = []
        · subst hr
          refine Ev.ifp (by rw [ba_toList]) (Ev.const rfl)
        · refine Ev.ifn (by rw [ba_toList]; exact hr) ?_
          rw [hd] at hz
          simp only [List.length_cons] at hz
          refine Ev.val (split_l0 _ (ba r) [] (Nat.le_refl _) (by rw [ba_data]; simp; omega)) ?_
          rw [ba_data, if_pos trivial, if_neg hr]
          split <;> simp [baP]
      · have : (match c :: r with | 47 :: r => (ba r, true) | _ => (p, false)) = (p, false) := by
          split
          · rename_i heq; injection heq with h1 _; exact absurd h1 hc
          · rfl
        rw [this]
        refine Ev.ifn (by simp) (Ev.const ?_)
        simp only
        rw [if_neg hc]; rfl
/-! ### the reference's Split -/
/-! ### Join -/
/-! ### Under, Same -/
/-! ### Last -/
end Go.Proofs.Ytpnmajblhgnkoaa.Z
end
