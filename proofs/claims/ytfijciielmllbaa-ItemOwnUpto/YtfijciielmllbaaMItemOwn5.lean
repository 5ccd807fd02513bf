/- ItemOwnUpto: at every input the law's function returns true and leaves its arguments as they were; condition: the arguments are of bulk at most 1048576. Part 5 of 5: this session's own texts, laid together. -/
import Derived.Test.YtfijciielmllbaaMB1
import Derived.Test.YtfijciielmllbaaMB2
import Derived.Test.YtfijciielmllbaaMB4
import Derived.Test.YtfijciielmllbaaRows
import Derived.WalkKit
import Derived.ProofKit
import Derived.OpenShut
import Derived.ShutString
import Derived.ChangeOld
import Derived.Below
import Derived.SizedLaws
import Derived.Carry
import Derived.JoinedCond
import Derived.Deep.CondSized
section
-- Printed by a program of this session (mp.py) out of the translation.
namespace Go.Proofs.Ytfijciielmllbaa.Z
open Go.RowKit Go.Proofs.YtfijciielmllbaaW.PrintWords Go.Proofs.YtfijciielmllbaaW.PrintLast Go.Proofs.YtfijciielmllbaaW.PrintMore
attribute [local go_sem] max2_int min2_int max_two min_two max_three min_three max_four min_four   -- for this text's walks alone
set_option linter.unusedVariables false
set_option linter.unusedSimpArgs false

/-! ### cambiumlaw04_ItemOwn: function 3 -/
theorem lit_event {P : Program} {ops : Array Oper} {rest : List Oper} {o : Oper} {a : Act} {Q : Exit → Act → World → Prop} {W : World} {cs : Array Value} {t : TypeId} {n : Nat} (hgd : o.guard = none) (hrun : (execOp a.eval o).run P W = .ok (.value (.slice (some ⟨W.heap.size, 0, none⟩) n n)) (W.alloc (.cells cs t (0, 0))))
    (h : ∀ g, g = W.heap.size → ∀ w1, w1.heap[g]? = some (.cells cs t (0, 0)) → Below W.heap.size W w1 → wpList P ops Q rest (a.put o.dst (.slice (some ⟨g, 0, none⟩) n n)) w1) : wpList P ops Q (o :: rest) a W :=
  Kd.event_run hgd hrun (h _ rfl _ (blk_new W _) (below_alloc (Below.refl _ _) _))
/-- A row of items lies there; which ones, is not said. -/
def RowAt (B : Nat) (W : World) (v : Value) (n : Nat) (kp : Option Nat) : Prop := ∃ A c, v = .slice A n c ∧ (0 < n → ∃ g cur, A = some ⟨g, 0, none⟩ ∧ W.heap[g]? = some (.cells cur 31 (0, 0)) ∧ n * 2 ≤ cur.size ∧ B ≤ g ∧ some g ≠ kp)
theorem RowAt.of {B : Nat} {W : World} {v : Value} {xs : List S31} {ok : Nat → Prop} {kp : Option Nat} (h : k31.R 31 W B ok v xs) (hk : ∀ k, ok k → some k ≠ kp) (hb : ∀ k, v.ownBlock = some k → B ≤ k) : RowAt B W v xs.length kp := by
  obtain ⟨A, c, rfl⟩ := Kd.R_slice h
  refine ⟨A, c, rfl, fun hn => ?_⟩
  obtain ⟨gr, cap, cur, inner, hv, hbg, hok, hgr, hnc, hcm, hsz, hil, hti, hrep⟩ := R_row k31_E h hn
  injection hv with h1 h2 h3
  refine ⟨gr, cur, h1, hgr, ?_, hb gr (by rw [h1]; rfl), hk gr hok⟩
  rw [k31_sz] at hsz
  omega
theorem RowAt.set {B : Nat} {W : World} {v : Value} {n : Nat} {kp : Option Nat} (h : RowAt B W v n kp) (g j : Nat) (u : Value) : RowAt B (W.setCell ⟨g, j, none⟩ u) v n kp := by
  obtain ⟨A, c, rfl, h⟩ := h
  refine ⟨A, c, rfl, fun hn => ?_⟩
  obtain ⟨g', cur, rfl, hg, hs, hb, hk⟩ := h hn
  by_cases e : g' = g
  · subst e
    exact ⟨g', _, rfl, blk_set hg j u, by simpa using hs, hb, hk⟩
  · exact ⟨g', cur, rfl, (Below.heap_setCell W ⟨g, j, none⟩ u g' e).trans hg, hs, hb, hk⟩
theorem RowAt.below {B : Nat} {W W' : World} {v : Value} {n : Nat} {kp : Option Nat} (h : RowAt B W v n kp) (hb : Below W.heap.size W W') : RowAt B W' v n kp := by
  obtain ⟨A, c, rfl, h⟩ := h
  refine ⟨A, c, rfl, fun hn => ?_⟩
  obtain ⟨g', cur, rfl, hg, hs, hB, hk⟩ := h hn
  exact ⟨g', cur, rfl, blk_below hg hb, hs, hB, hk⟩
/-- What the loops keep: the list that was kept, the two rows, the row of both. -/
def LF (w : World) (vk va vb : Value) (ks : List S31) (na nb gt : Nat) (wr : World) : Prop :=
  Below w.heap.size w wr ∧ k31.R 31 wr w.heap.size (fun k => some k = vk.ownBlock) vk ks ∧ RowAt w.heap.size wr va na vk.ownBlock ∧ RowAt w.heap.size wr vb nb vk.ownBlock ∧ wr.heap[gt]? = some (.cells #[va, vb] 22 (0, 0))
theorem LF.set {w : World} {vk va vb : Value} {ks : List S31} {na nb gt : Nat} {wr : World} (h : LF w vk va vb ks na nb gt wr) {g : Nat} {cur : Array Value} (hg : wr.heap[g]? = some (.cells cur 31 (0, 0))) (hb : w.heap.size ≤ g) (hk : some g ≠ vk.ownBlock) (j : Nat) (u : Value) :
    LF w vk va vb ks na nb gt (wr.setCell ⟨g, j, none⟩ u) := by
  have hne : gt ≠ g := by
    intro e
    subst e
    have := h.2.2.2.2.symm.trans hg
    simp at this
  exact ⟨h.1.setCell (p := ⟨g, j, none⟩) hb u, Kd.R_far (p := ⟨g, j, none⟩) h.2.1 (fun k hk' e => hk (by rw [← hk']; exact congrArg some e.symm)) u, h.2.2.1.set g j u, h.2.2.2.1.set g j u, (Below.heap_setCell wr ⟨g, j, none⟩ u gt hne).trans h.2.2.2.2⟩
theorem LF.row {w : World} {vk va vb : Value} {ks : List S31} {na nb gt : Nat} {wr : World} (h : LF w vk va vb ks na nb gt wr) (x : Int) (h0 : 0 ≤ x) (h1 : x < 2) :
    ∃ A n c, wr.cell? ⟨gt, x.toNat, none⟩ = some (.slice A n c) ∧ RowAt w.heap.size wr (.slice A n c) n vk.ownBlock ∧ (n = na ∨ n = nb) := by
  obtain rfl | rfl : x = 0 ∨ x = 1 := by omega
  · obtain ⟨A, c, rfl, _⟩ := h.2.2.1
    exact ⟨A, na, c, (blk_cell h.2.2.2.2 0).trans rfl, h.2.2.1, .inl rfl⟩
  · obtain ⟨A, c, rfl, _⟩ := h.2.2.2.1
    exact ⟨A, nb, c, (blk_cell h.2.2.2.2 1).trans rfl, h.2.2.2.1, .inr rfl⟩
theorem LF.keep {w : World} {vk va vb : Value} {ks : List S31} {na nb gt : Nat} {wr : World} {A : Option Addr} {n c : Nat} (h : LF w vk va vb ks na nb gt wr) (hr : RowAt w.heap.size wr (.slice A n c) n vk.ownBlock) (y : Int) (hy : y < n) (h0 : 0 ≤ y) :
    ∃ g, A = some ⟨g, 0, none⟩ ∧ (∃ c1, wr.cell? ⟨g, y.toNat * 2 + 1, none⟩ = some c1) ∧ wr.frozen? ⟨g, y.toNat * 2 + 1, none⟩ = false ∧ (∀ u, LF w vk va vb ks na nb gt (wr.setCell ⟨g, y.toNat * 2 + 1, none⟩ u) ∧ RowAt w.heap.size (wr.setCell ⟨g, y.toNat * 2 + 1, none⟩ u) (.slice A n c) n vk.ownBlock) := by
  obtain ⟨A', c', e, hh⟩ := id hr
  injection e with e1 _ _
  subst e1
  obtain ⟨g, cur, rfl, hg, hs, hb, hk⟩ := hh (by omega)
  exact ⟨g, rfl, Option.isSome_iff_exists.1 (row_some hg _ (by omega)), blk_frozen hg _, fun u => ⟨h.set hg hb hk _ u, hr.set g _ u⟩⟩
def cambiumlaw04_ItemOwn.f (k : Nat) (l0 : List (S31)) (l1 : List (S39)) (a2 : ByteArray) : Option (Bool) := (cambiumlaw04_lives.f k).bind fun t259 => (if t259 = true then ((some (([] : List (S31)) : List (S31))).bind fun y260 => (if y260.length + l0.length < 4398046511104 then ((item_Apply.f k l0 l1).bind fun bt266 => ((item_Under.f k l0 a2).bind fun bt270 => ((cambiumref04_Same.f k l0 (y260 ++ l0)).bind fun t274 => (some t274)))) else (none))) else (some false))
theorem cambiumlaw04_ItemOwn.mono : ∀ a0 a1 a2 k, LeO (cambiumlaw04_ItemOwn.f k a0 a1 a2) (cambiumlaw04_ItemOwn.f (k + 1) a0 a1 a2) := by
  intro a0 a1 a2 k
  unfold cambiumlaw04_ItemOwn.f
  repeat' first
      | (with_reducible exact cambiumlaw04_lives.mono _)
      | (with_reducible exact cambiumref04_Same.mono _ _ _)
      | (with_reducible exact item_Apply.mono _ _ _)
      | (with_reducible exact item_Under.mono _ _ _)
      | (with_reducible exact LeO.refl _)
      | (with_reducible exact LeO.none _)
      | (with_reducible refine LeO.ite ?_ ?_)
      | (with_reducible refine LeO.bind ?_ (fun _ => ?_))
      | exact cambiumlaw04_lives.mono _
      | exact cambiumref04_Same.mono _ _ _
      | exact item_Apply.mono _ _ _
      | exact item_Under.mono _ _ _
      | exact LeO.none _
      | refine LeO.ite ?_ ?_
      | refine LeO.bind ?_ (fun _ => ?_)
set_option maxHeartbeats 8000000 in
set_option maxRecDepth 100000 in
theorem cambiumlaw04_ItemOwn.calls (k : Nat) (A0 : Option Addr) (c0 : Nat) (l0 : List (S31)) (A1 : Option Addr) (c1 : Nat) (l1 : List (S39)) (a2 : ByteArray) (r : Bool) (w : World) (hr0 : Kd.C k31 w A0 l0.length l0) (hc0 : l0.length ≤ c0) (hr1 : Kd.C k39 w A1 l1.length l1) (hc1 : l1.length ≤ c1) (h : cambiumlaw04_ItemOwn.f k l0 l1 a2 = some r) (hT_ : r = true := by rfl) :
    Calls Try.prog 3 #[.slice A0 l0.length c0, .slice A1 l1.length c1, .string a2] w fun e w' => e = .returned (.bool r) ∧ Below w.heap.size w w' := by
  have HT_ := Aside0.mk hT_
  clear hT_
  have HR0 := Aside0.mk hr0
  have HC0 := Aside0.mk hc0
  clear hr0 hc0
  have HR1 := Aside0.mk hr1
  have HC1 := Aside0.mk hc1
  clear hr1 hc1
  have HB := Aside0.mk (Below.refl w.heap.size w)
  have H : ((cambiumlaw04_lives.f k).bind fun t259 => (if t259 = true then ((some (([] : List (S31)) : List (S31))).bind fun y260 => (if y260.length + l0.length < 4398046511104 then ((item_Apply.f k l0 l1).bind fun bt266 => ((item_Under.f k l0 a2).bind fun bt270 => ((cambiumref04_Same.f k l0 (y260 ++ l0)).bind fun t274 => (some t274)))) else (none))) else (some false))) = some r := h
  clear h
  replace H := Option.bind_eq_some_iff.mp H
  obtain ⟨t259, A40, H⟩ := H
  replace H : (if t259 = true then ((some (([] : List (S31)) : List (S31))).bind fun y260 => (if y260.length + l0.length < 4398046511104 then ((item_Apply.f k l0 l1).bind fun bt266 => ((item_Under.f k l0 a2).bind fun bt270 => ((cambiumref04_Same.f k l0 (y260 ++ l0)).bind fun t274 => (some t274)))) else (none))) else (some false)) = some r := H
  have A4 := Aside0.mk A40
  clear A40
  by_cases c5 : t259 = true
  · subst c5
    have H1 : ((some (([] : List (S31)) : List (S31))).bind fun y260 => (if y260.length + l0.length < 4398046511104 then ((item_Apply.f k l0 l1).bind fun bt266 => ((item_Under.f k l0 a2).bind fun bt270 => ((cambiumref04_Same.f k l0 (y260 ++ l0)).bind fun t274 => (some t274)))) else (none))) = some r := by rw [if_pos rfl] at H; exact H
    clear H
    have H := H1
    clear H1
    obtain ⟨y260, hy260⟩ : ∃ y_ : List (S31), y_ = (([] : List (S31))) := ⟨_, rfl⟩
    replace H : (if y260.length + l0.length < 4398046511104 then ((item_Apply.f k l0 l1).bind fun bt266 => ((item_Under.f k l0 a2).bind fun bt270 => ((cambiumref04_Same.f k l0 (y260 ++ l0)).bind fun t274 => (some t274)))) else (none)) = some r := by first | (rw [hy260]; with_reducible exact H) | (have H2_ := (Option.bind_some _ _).symm.trans H; rw [hy260]; with_reducible exact H2_) | (have H2_ := (Option.bind_some _ _).symm.trans H; with_reducible exact H2_) | with_reducible exact H | (rw [hy260]; exact H) | exact H
    have Ny260 := Aside0.mk hy260
    clear hy260
    by_cases c6 : y260.length + l0.length < 4398046511104
    · rw [if_pos c6] at H
      have LMc6 := Aside0.mk c6
      clear c6
      obtain ⟨y263, hy263⟩ : ∃ y_ : List (S31), y_ = (y260 ++ l0) := ⟨_, rfl⟩
      replace H : ((item_Apply.f k l0 l1).bind fun bt266 => ((item_Under.f k l0 a2).bind fun bt270 => ((cambiumref04_Same.f k l0 y263).bind fun t274 => (some t274)))) = some r := by first | (rw [hy263]; with_reducible exact H) | (have H2_ := (Option.bind_some _ _).symm.trans H; rw [hy263]; with_reducible exact H2_) | (have H2_ := (Option.bind_some _ _).symm.trans H; with_reducible exact H2_) | with_reducible exact H | (rw [hy263]; exact H) | exact H
      have Ny263 := Aside0.mk hy263
      clear hy263
      replace H := Option.bind_eq_some_iff.mp H
      obtain ⟨⟨t266, t267⟩, A70, H⟩ := H
      replace H : ((item_Under.f k l0 a2).bind fun bt270 => ((cambiumref04_Same.f k l0 y263).bind fun t274 => (some t274))) = some r := H
      have A7 := Aside0.mk A70
      clear A70
      replace H := Option.bind_eq_some_iff.mp H
      obtain ⟨⟨t270, t271⟩, A80, H⟩ := H
      replace H : ((cambiumref04_Same.f k l0 y263).bind fun t274 => (some t274)) = some r := H
      have A8 := Aside0.mk A80
      clear A80
      replace H := Option.bind_eq_some_iff.mp H
      obtain ⟨t274, A90, H⟩ := H
      replace H : (some t274) = some r := H
      have A9 := Aside0.mk A90
      clear A90
      obtain rfl := Option.some.inj H
      go_enter Try.func3, Try.ntmps3
      go_wp2_with (first | ((with_reducible refine gate_callee (f := 4) rfl ?_); refine goesL_ (some 15) rfl rfl Try.func4 (by kernel_rfl) rfl #[] rfl (by (try simp only [List.map_toArray, List.map_cons, List.map_nil]); first | done | rfl | (simp only [List.length_drop, List.length_take]; rfl)) ?_; (with_reducible refine (cambiumlaw04_lives.calls k  true _ A4.out).mono ?_); rintro e w10 ⟨rfl, hb⟩; refine ⟨_, rfl, ?_⟩; have n0_ := Aside0.mk (below_step (by repeat (first | (with_reducible first | exact HB.out | apply below_alloc | apply pw_below_drewN | apply below_drew1) | exact HB.out)) hb); clear HB; have HB := n0_; clear n0_; (try clear hb); (try clear hb2); (try clear hk); (try clear hi)) | ((with_reducible refine gate_dst (N := 17) rfl ?_); refine Kd.R_lit k31 _ 31 ?hg (N := 17) ?hd (xs := ([] : List (S31))) (inner := []) (ok := fun _ => True) (okp := fun _ => True) ?hr ?hp (fun _ hk => hk) trivial (Below.refl _ _) (Nat.le_refl _) (by simp) ?_; (case hd => rfl); (case hg => rfl); (case hr => first | (go_simp; done) | (go_simp; rfl)); (case hp => exact (Reps.none _ _)); intro v261 w11 ho12 hb hg_ hnew_; clear hg_ hnew_; (first | rw [← Ny260.out] at ho12 | (simp only [Int.reduceToNat] at ho12; rw [← Ny260.out] at ho12)); have n0_ := Aside0.mk (Kd.R_lower ho12 (below_size (by repeat (first | (with_reducible first | exact HB.out | apply below_alloc | apply pw_below_drewN | apply below_drew1) | exact HB.out)))); have n1_ := Aside0.mk (below_step (by repeat (first | (with_reducible first | exact HB.out | apply below_alloc | apply pw_below_drewN | apply below_drew1) | exact HB.out)) hb); clear HB; have HO262 := n0_; have HB := n1_; clear n0_ n1_; clear hb ho12) | ((with_reducible refine gate_builtin (b := .append) (xs := #[.tmp 17, .tmp 18]) rfl ?_); at_builtin; refine Kd.R_append_rows k31 (w0 := w) w.heap.size rfl (.tmp 17) (.tmp 18) 22 31 (.agg #[(.string ⟨#[]⟩), (.string ⟨#[]⟩)]) 32 rfl Try.underlying22 info31 rfl (by decide) (by omega) v261 y260 l0 _ _ _ (fun _ => True) (fun _ => False) rfl rfl ?aO ?aR (fun _ _ h => h) (fun _ h => h.elim) ?aF ?aB ?aS ?aL ?_; (case aR => repeat (first | exact (Kd.C_below HR0.out HB.out) | (with_reducible refine Kd.C_alloc ?_ _) | (with_reducible refine Kd.C_drewN ?_ _) | (with_reducible refine Kd.C_drew ?_))); (case aB => exact (by repeat (first | (with_reducible first | exact HB.out | apply below_alloc | apply pw_below_drewN | apply below_drew1) | exact HB.out))); (case aF => exact (fun _ _ => trivial)); (case aO => exact (by (with_reducible repeat (first | apply Kd.R_alloc | apply Kd.R_drewN | apply Kd.R_drew)); exact HO262.out)); (case aS => exact (below_size (by repeat (first | (with_reducible first | exact HB.out | apply below_alloc | apply pw_below_drewN | apply below_drew1) | exact HB.out)))); (case aL => have := LMc6.out; omega); intro v264 w13 ho hb hg hat; rw [← Ny263.out] at ho; have n0_ := Aside0.mk (hb); have n1_ := Aside0.mk (ho); clear HB; clear HO262; have HB := n0_; have HO265 := n1_; clear n0_ n1_; clear ho hb hg hat) | ((with_reducible refine gate_callee (f := 5) rfl ?_); refine goesL_ (some 23) rfl rfl Try.func5 (by kernel_rfl) rfl #[.slice A0 l0.length c0, .slice A1 l1.length c1] rfl (by (try simp only [List.map_toArray, List.map_cons, List.map_nil]); first | done | rfl | (simp only [List.length_drop, List.length_take]; rfl)) ?_; (with_reducible refine (item_Apply.calls k _ _ l0 _ _ l1 t266 t267 _ ?side1 ?side2 ?side3 ?side4 A7.out).mono ?_); (case side1 => repeat (first | exact (Kd.C_below HR0.out HB.out) | (with_reducible refine Kd.C_alloc ?_ _) | (with_reducible refine Kd.C_drewN ?_ _) | (with_reducible refine Kd.C_drew ?_))); (case side2 => exact HC0.out); (case side3 => repeat (first | exact (Kd.C_below HR1.out HB.out) | (with_reducible refine Kd.C_alloc ?_ _) | (with_reducible refine Kd.C_drewN ?_ _) | (with_reducible refine Kd.C_drew ?_))); (case side4 => exact HC1.out); rintro e w14 ⟨v268, rfl, ho0, hb⟩; refine ⟨_, rfl, ?_⟩; have n0_ := Aside0.mk (Kd.R_elder' (by (with_reducible repeat (first | apply Kd.R_alloc | apply Kd.R_drewN | apply Kd.R_drew)); exact HO265.out) (Kd.R_base ho0) hb); have n1_ := Aside0.mk (Kd.R_lower (Kd.R_new' ho0 (Kd.R_lt (by (with_reducible repeat (first | apply Kd.R_alloc | apply Kd.R_drewN | apply Kd.R_drew)); exact HO265.out))) (below_size (by repeat (first | (with_reducible first | exact HB.out | apply below_alloc | apply pw_below_drewN | apply below_drew1) | exact HB.out)))); have n2_ := Aside0.mk (below_step (by repeat (first | (with_reducible first | exact HB.out | apply below_alloc | apply pw_below_drewN | apply below_drew1) | exact HB.out)) hb); clear HO265; clear HB; have HO265 := n0_; have HO269 := n1_; have HB := n2_; clear n0_ n1_ n2_; (try clear hb); (try clear hb2); (try clear hk); (try clear hi); (try clear ho0)) | ((with_reducible refine gate_callee (f := 6) rfl ?_); refine goesL_ (some 29) rfl rfl Try.func6 (by kernel_rfl) rfl #[.slice A0 l0.length c0, .string a2] rfl (by (try simp only [List.map_toArray, List.map_cons, List.map_nil]); first | done | rfl | (simp only [List.length_drop, List.length_take]; rfl)) ?_; (with_reducible refine (item_Under.calls k _ _ l0 a2 t270 t271 _ ?side1 ?side2 A8.out).mono ?_); (case side1 => repeat (first | exact (Kd.C_below HR0.out HB.out) | (with_reducible refine Kd.C_alloc ?_ _) | (with_reducible refine Kd.C_drewN ?_ _) | (with_reducible refine Kd.C_drew ?_))); (case side2 => exact HC0.out); rintro e w15 ⟨v272, rfl, ho0, hb⟩; refine ⟨_, rfl, ?_⟩; have n0_ := Aside0.mk (Kd.R_elder' (by (with_reducible repeat (first | apply Kd.R_alloc | apply Kd.R_drewN | apply Kd.R_drew)); exact HO265.out) (Kd.R_base ho0) hb); have n1_ := Aside0.mk (Kd.R_elder' (by (with_reducible repeat (first | apply Kd.R_alloc | apply Kd.R_drewN | apply Kd.R_drew)); exact HO269.out) (Kd.R_base ho0) hb); have n2_ := Aside0.mk (Kd.R_lower (Kd.R_new' (Kd.R_new' ho0 (Kd.R_lt (by (with_reducible repeat (first | apply Kd.R_alloc | apply Kd.R_drewN | apply Kd.R_drew)); exact HO265.out))) (Kd.R_lt (by (with_reducible repeat (first | apply Kd.R_alloc | apply Kd.R_drewN | apply Kd.R_drew)); exact HO269.out))) (below_size (by repeat (first | (with_reducible first | exact HB.out | apply below_alloc | apply pw_below_drewN | apply below_drew1) | exact HB.out)))); have n3_ := Aside0.mk (below_step (by repeat (first | (with_reducible first | exact HB.out | apply below_alloc | apply pw_below_drewN | apply below_drew1) | exact HB.out)) hb); clear HO265; clear HO269; clear HB; have HO265 := n0_; have HO269 := n1_; have HO273 := n2_; have HB := n3_; clear n0_ n1_ n2_ n3_; (try clear hb); (try clear hb2); (try clear hk); (try clear hi); (try clear ho0); obtain ⟨Ao16, co16, eo16⟩ := Kd.R_slice HO265.out; subst eo16) | ((with_reducible refine gate_dst (N := 34) rfl ?_); obtain ⟨Aa_, ca_, ea_⟩ := Kd.R_slice HO269.out; subst ea_; obtain ⟨Ab_, cb_, eb_⟩ := Kd.R_slice HO273.out; subst eb_; have HML := Aside0.mk (And.intro (Kd.C_max (Kd.R_reads' HO269.out).2.2) (Kd.C_max (Kd.R_reads' HO273.out).2.2)); refine lit_event (cs := #[.slice Aa_ t266.length ca_, .slice Ab_ t270.length cb_]) (t := 22) (n := 2) ?hg ?hr ?_; (case hg => rfl); (case hr => first | (go_simp; done) | (go_simp; rfl)); intro gt hgt wl hbl hb; have LF0 := Aside0.mk (show LF w (.slice Ao16 y263.length co16) (.slice Aa_ t266.length ca_) (.slice Ab_ t270.length cb_) y263 t266.length t270.length gt wl from ⟨below_step (by repeat (first | (with_reducible first | exact HB.out | apply below_alloc | apply pw_below_drewN | apply below_drew1) | exact HB.out)) hb, Kd.R_below (Kd.R_tight k31_E (by (with_reducible repeat (first | apply Kd.R_alloc | apply Kd.R_drewN | apply Kd.R_drew)); exact HO265.out)) hb, (RowAt.of (by (with_reducible repeat (first | apply Kd.R_alloc | apply Kd.R_drewN | apply Kd.R_drew)); exact HO269.out) (fun k hk => by first | exact hk.2 | exact hk.1.2 | exact hk.1.1.2 | (intro e; simp_all)) (fun k hk => Kd.R_base HO269.out k hk)).below hb, (RowAt.of (by (with_reducible repeat (first | apply Kd.R_alloc | apply Kd.R_drewN | apply Kd.R_drew)); exact HO273.out) (fun k hk => by first | exact hk.2 | exact hk.1.2 | exact hk.1.1.2 | (intro e; simp_all)) (fun k hk => Kd.R_base HO273.out k hk)).below hb, hbl⟩); clear hb hbl hgt))
      go_loopw [36] (fun i wr => ∃ x : Int, i = .int .i64 x ∧ Aside0 (0 ≤ x ∧ x ≤ 2) ∧ Aside0 (LF w (.slice Ao16 y263.length co16) (.slice Aa_ t266.length ca_) (.slice Ab_ t270.length cb_) y263 t266.length t270.length gt wr)) (fun i _ => 2 - (intOf i).toNat)
      case atStart => exact ⟨0, rfl, ⟨by omega⟩, LF0⟩
      case round =>
        obtain ⟨x, rfl, HX, HF⟩ := hrel
        obtain ⟨hx0, hx1⟩ := HX.out
        by_cases hlt : x < 2
        · obtain ⟨Ax, nx, cx, hcell, hrow, hnx⟩ := HF.out.row x hx0 hlt
          have hlt2 : decide (x < 2) = true := decide_eq_true hlt
          have p0 := eq_true hx0
          have p1 := eq_true hlt
          have RA := Aside0.mk hrow
          have hml : (nx : Int) ≤ 9223372036854775807 := by
            have := HML.out
            omega
          have ML := Aside0.mk hml
          clear hrow hml hnx hx0 hx1 hlt LF0
          go_wp2
          go_loopw [42] (fun i wr => ∃ y : Int, i = .int .i64 y ∧ Aside0 (0 ≤ y ∧ y ≤ nx) ∧ Aside0 (LF w (.slice Ao16 y263.length co16) (.slice Aa_ t266.length ca_) (.slice Ab_ t270.length cb_) y263 t266.length t270.length gt wr ∧ RowAt w.heap.size wr (.slice Ax nx cx) nx (Value.slice Ao16 y263.length co16).ownBlock)) (fun i _ => nx - (intOf i).toNat)
          case atStart => exact ⟨0, rfl, ⟨by omega⟩, ⟨HF.out, RA.out⟩⟩
          case round =>
            obtain ⟨y, rfl, HY, HG⟩ := hrel
            obtain ⟨hy0, hy1⟩ := HY.out
            by_cases hly : y < nx
            · obtain ⟨g, hA, ⟨c1, k1⟩, z1, hset⟩ := LF.keep HG.out.1 HG.out.2 y hly hy0
              subst hA
              have hly2 : decide (y < (nx : Int)) = true := decide_eq_true hly
              have q0 := eq_true hy0
              have q1 := eq_true hly
              have HS := Aside0.mk (hset (.string ⟨#[115, 112, 111, 105, 108, 116]⟩))
              clear hset hy0 hy1 hly
              go_wp2
              have hy := HY.out
              have hl : y < nx := of_eq_true q1
              have ml := ML.out
              have ew : wrap64 (y + 1) = y + 1 := by unfold wrap64; omega
              go_roundw
              case rel => exact ⟨y + 1, by rw [ew], ⟨by omega⟩, HS⟩
              case measure =>
                simp [ew, intOf]
                omega
            · have hge : decide (y < (nx : Int)) = false := decide_eq_false hly
              clear hy0 hy1 hly
              go_wp2
              have hx := HX.out
              have hl : x < 2 := of_eq_true p1
              have ew : wrap64 (x + 1) = x + 1 := by unfold wrap64; omega
              go_roundw
              case rel => exact ⟨x + 1, by rw [ew], ⟨by omega⟩, ⟨HG.out.1⟩⟩
              case measure =>
                simp [ew, intOf]
                omega
        · have hge : decide (x < 2) = false := decide_eq_false hlt
          have HB := Aside0.mk HF.out.1
          have HO265 := Aside0.mk HF.out.2.1
          clear hx0 hx1 hlt LF0
          go_wp2_with (first | ((with_reducible refine gate_callee (f := 7) rfl ?_); refine goesL_ (some 53) rfl rfl Try.func7 (by kernel_rfl) rfl #[.slice A0 l0.length c0, .slice Ao16 y263.length co16] rfl (by (try simp only [List.map_toArray, List.map_cons, List.map_nil]); first | done | rfl | (simp only [List.length_drop, List.length_take]; rfl)) ?_; (with_reducible refine (cambiumref04_Same.calls k _ _ l0 _ _ y263 t274 _ ?side1 ?side2 ?side3 ?side4 A9.out).mono ?_); (case side1 => repeat (first | exact (Kd.C_below HR0.out HB.out) | (with_reducible refine Kd.C_alloc ?_ _) | (with_reducible refine Kd.C_drewN ?_ _) | (with_reducible refine Kd.C_drew ?_))); (case side2 => exact HC0.out); (case side3 => repeat (first | exact (Kd.R_reads' HO265.out).2.2 | (with_reducible refine Kd.C_alloc ?_ _) | (with_reducible refine Kd.C_drewN ?_ _) | (with_reducible refine Kd.C_drew ?_))); (case side4 => exact (Kd.R_reads' HO265.out).2.1); rintro e w' ⟨rfl, ⟨nd, rfl⟩⟩; refine ⟨_, rfl, ?_⟩))
          go_ret
          exact ⟨by first | rfl | (simp [errW_none, errW_some] <;> rfl) | (simp [*, errW_none, errW_some] <;> rfl), (by repeat (first | (with_reducible first | exact HB.out | apply below_alloc | apply pw_below_drewN | apply below_drew1) | exact HB.out))⟩
    · rw [if_neg c6] at H
      exact absurd H (by simp)
  · replace c5 := Bool.eq_false_iff.mpr c5
    subst c5
    have H1 : (some false) = some r := by rw [if_neg (show ¬ (false = true) by decide)] at H; exact H
    clear H
    have H := H1
    clear H1
    exact absurd ((Option.some.inj H).trans HT_.out) (by simp)

end Go.Proofs.Ytfijciielmllbaa.Z
end

section
/- ItemOwn, over lists: the law's function answers true. -/
namespace Go.Proofs.Ytfijciielmllbaa.Pure
open Go.RowKit Go.Proofs.Ytfijciielmllbaa Go.Proofs.Ytfijciielmllbaa.Z Go.Proofs.YtfijciielmllbaaW.PrintWords
set_option linter.unusedVariables false
set_option linter.unusedSimpArgs false
theorem sumI_ItemOwn (l : List It) : l.length ≤ (l.map Z.B31).sum := by
  induction l with
  | nil => simp
  | cons x l ih => simp only [List.map_cons, List.sum_cons, List.length_cons]; unfold Z.B31 at *; omega
theorem sumC_ItemOwn (l : List Ch) : l.length ≤ (l.map Z.B39).sum := by
  induction l with
  | nil => simp
  | cons x l ih => simp only [List.map_cons, List.sum_cons, List.length_cons]; unfold Z.B39 at *; omega
theorem ItemOwn : ∀ (l0 : List (S31)) (l1 : List (S39)) (a2 : ByteArray), l0.length ≤ maxLen → (∀ x ∈ l0, Z.G31 x) → l1.length ≤ maxLen → (∀ x ∈ l1, Z.G39 x) → a2.size ≤ maxLen → ((l0.map Z.B31).sum + 1) + ((l1.map Z.B39).sum + 1) + (a2.size + 1) ≤ 1048576 → ∃ k, Z.cambiumlaw04_ItemOwn.f k l0 l1 a2 = some true := by
  intro l cs a _ _ _ _ _ hs
  have h1 := sumI_ItemOwn l
  have h2 := sumC_ItemOwn cs
  refine Ev.rounds (g := fun k => Z.cambiumlaw04_ItemOwn.f k l cs a) ?_
  unfold cambiumlaw04_ItemOwn.f
  refine Ev.bind lives_f (Ev.ifp rfl (Ev.bindc rfl (Ev.ifp (by simp only [List.length_nil]; omega) ?_)))
  refine Ev.bind (itApply l cs (by omega)) (Ev.bind (itUnder l (by omega) a) (Ev.bind (a := true) ?_ (Ev.const rfl)))
  exact same_refl l (by omega)
end Go.Proofs.Ytfijciielmllbaa.Pure
end

section
/- cambium/cambiumlaw04.ItemOwn: at every input the law's function returns true, and each argument reads afterwards as before. Conditions: none beyond the row's own, and that the arguments are of bulk at most 1048576. Printed by a program of this session (mp.py) over the pure statement in YtfijciielmllbaaPureItemOwn. -/
namespace Go.Proofs.Ytfijciielmllbaa.itemOwn
open Go.ChangeShapes Go.WideShapes Go.ChangeAt Go.RowKit
open Go.ChangeMaps (open_string shut_string)
set_option linter.unusedVariables false
set_option linter.unusedSimpArgs false
theorem own : ownKnob Try.prog.godebug = none := by kernel_rfl
theorem laidOut : laidOutB Try.prog = true := by kernel_rfl
set_option maxHeartbeats 1000000 in
set_option maxRecDepth 100000 in
theorem lifted (os : Os) (started : os.Started) (H : Type) (enc : TypeId × Value → H) (F : Stop.Interp) :
    ReturnsInHanded {} Try.checked os 3 .any ((Rows.OpenSpec.upto Rows.itemOwnSpec).pre6 enc Try.prog Try.f3 Rows.itemOwnUptoRow.domain false) (((Rows.OpenSpec.upto Rows.itemOwnSpec).at F).post enc Try.prog Try.f3 false true false false) := by
  refine returnsInHanded_of_cond_sized (C := Try.checked) (s := Rows.OpenSpec.upto Rows.itemOwnSpec) (k := Rows.uptoSmall) rfl own started (by kernel_rfl) Try.func3
    (OpenSpec.witness (enc := enc) (C := Try.checked) (s := Rows.OpenSpec.upto Rows.itemOwnSpec) (k := Rows.uptoSmall) rfl false ⟨#[], #[.slice none 0 0, .slice none 0 0, .string ByteArray.empty], []⟩ 8 (by kernel_rfl) (by kernel_rfl) (by kernel_rfl)
      (x := ([.nil, .nil, .lit (.string [])], [], [])) (by kernel_rfl) rfl (by kernel_rfl)) ?_
  intro W base args ds gs before hval0 hW hcnd hk0 hwz_ _
  have hsz : (DataW.weightsEach Try.prog (Try.f3.params.toList ++ Rows.itemOwnSpec.plain.varTypes Try.prog) (ds ++ gs)).all (· ≤ reachBytes) = true := hwz_
  have hval : ∀ (j : Nat) t v, Try.f3.params[j]? = some t → args[j]? = some v → Value.okWide Try.prog W .any base t v := hval0
  have hW' := hW
  obtain ⟨p, q, hA0, hV, rfl, hfz, hnd⟩ := hW
  have hA : DataW.TrodAll enc Try.prog W 0 (fun _ => true) true Try.f3.params.toList args.toList ds p := hA0
  rw [Try.params3] at hA hval hsz
  obtain ⟨v0, vs0, d0, ds0, p0, q0, hargs, rfl, rfl, h0, r0⟩ := trodAll_cons hA
  obtain ⟨v1, vs1, d1, ds1, p1, q1, rfl, rfl, rfl, h1, r1⟩ := trodAll_cons r0
  obtain ⟨v2, vs2, d2, ds2, p2, q2, rfl, rfl, rfl, h2, r2⟩ := trodAll_cons r1
  obtain ⟨rfl, rfl, rfl⟩ := trodAll_nil r2
  obtain rfl : args = #[v0, v1, v2] := by cases args; simp_all
  obtain ⟨rfl, rfl⟩ := trodVars_none hV
  have k0 := h0
  have lt0 : ∀ x ∈ p0, x.block < W.heap.size := by obtain ⟨m, hm⟩ := k0; exact DataW.trod_lt m _ _ _ hm
  obtain ⟨a0, len0, cap0, rfl⟩ := okWide_slice Try.underlying22 (hval 0 22 v0 rfl rfl)
  obtain ⟨fuel0, hf0⟩ := h0
  obtain ⟨A0, c0, l0, hcs0, hlc0, hcm0, hC0, hG0, hB0, hx0⟩ := Z.Opens.row Try.underlying22 Z.opens31 (of_decide_eq_true (by kernel_rfl)) hf0
  simp only [Value.cells, List.cons.injEq, Value.slice.injEq, and_true] at hcs0
  obtain ⟨rfl, rfl, rfl⟩ := hcs0
  have hlm0 : l0.length ≤ maxLen := Nat.le_trans hlc0 hcm0
  have k1 := h1
  have lt1 : ∀ x ∈ p1, x.block < W.heap.size := by obtain ⟨m, hm⟩ := k1; exact DataW.trod_lt m _ _ _ hm
  obtain ⟨a1, len1, cap1, rfl⟩ := okWide_slice Try.underlying23 (hval 1 23 v1 rfl rfl)
  obtain ⟨fuel1, hf1⟩ := h1
  obtain ⟨A1, c1, l1, hcs1, hlc1, hcm1, hC1, hG1, hB1, hx1⟩ := Z.Opens.row Try.underlying23 Z.opens39 (of_decide_eq_true (by kernel_rfl)) hf1
  simp only [Value.cells, List.cons.injEq, Value.slice.injEq, and_true] at hcs1
  obtain ⟨rfl, rfl, rfl⟩ := hcs1
  have hlm1 : l1.length ≤ maxLen := Nat.le_trans hlc1 hcm1
  have k2 := h2
  have lt2 : ∀ x ∈ p2, x.block < W.heap.size := by obtain ⟨m, hm⟩ := k2; exact DataW.trod_lt m _ _ _ hm
  obtain ⟨a2, rfl, rfl, rfl, y2⟩ := open_string Try.underlying9 (hval 2 9 v2 rfl rfl) h2
  have w2 := y2
  have hbk : ((l0.map Z.B31).sum + 1) + ((l1.map Z.B39).sum + 1) + (a2.size + 1) ≤ 1048576 := by
    have hb_ := of_decide_eq_true hk0
    simp only [Rows.uptoBulkAll, Rows.uptoBulk, List.append_nil, Array.length_toList, List.map_cons, List.map_nil] at hb_
    (try simp only [show ∀ s : ByteArray, s.data.size = s.size from fun _ => rfl] at hb_)
    (try dsimp only at hB0)
    (try dsimp only at hB1)
    omega
  have hP := Pure.ItemOwn l0 l1 a2 hlm0 hG0 hlm1 hG1 w2 hbk
  obtain ⟨k, hk⟩ := hP
  refine (Z.cambiumlaw04_ItemOwn.calls k _ _ l0 _ _ l1 a2 true W hC0 hlc0 hC1 hlc1 hk).mono fun e W' ⟨he, bel0⟩ => ?_
  have bel : Below W.heap.size W W' := bel0
  subst he
  exact ⟨_, rfl, _, _, _, [], _, [], hW', trodAll_mk1 (shut_bool Try.underlying4 _), (trodAll_cons_mk (Below.trod laidOut (by kernel_rfl) (of_decide_eq_true (by kernel_rfl)) k0 bel lt0) (trodAll_cons_mk (Below.trod laidOut (by kernel_rfl) (of_decide_eq_true (by kernel_rfl)) k1 bel lt1) (trodAll_cons_mk (Below.trod laidOut (by kernel_rfl) (of_decide_eq_true (by kernel_rfl)) k2 bel lt2) trodAll_mk0))), rfl, bel.frame _, fun h => by cases h⟩
theorem over : Rows.itemOwnUptoRow.holds Try.pinned (Rows.OpenSpec.upto Rows.itemOwnSpec) :=
  OpenClaim.holds_of_cond 3 Try.f3 rfl rfl rfl rfl rfl rfl rfl ⟨rfl, rfl, rfl, rfl, rfl⟩ rfl rfl rfl rfl rfl (by kernel_rfl) Try.func3 (by kernel_rfl)
    (of_decide_eq_true (by kernel_rfl)) (by unfold Func.isWrapper; first | (rw [if_pos (by decide +kernel)]; kernel_rfl) | (rw [if_neg (by decide +kernel)]; exact ⟨rfl, rfl⟩))
    (fun os started H enc _ F => lifted os started H enc F)
end Go.Proofs.Ytfijciielmllbaa.itemOwn
namespace Go.Proofs.Ytfijciielmllbaa
theorem itemOwn_holds : Rows.ItemOwnUptoSaid := itemOwn.over
#print axioms itemOwn_holds
end Go.Proofs.Ytfijciielmllbaa
end
