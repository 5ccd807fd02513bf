/- This session's own texts, laid together (a part that several claims share). -/
import Derived.Test.YthbljhmjppjcjaaGreatDoorMB1
import Derived.WalkSpells
import Derived.IntWalk
import Derived.Deep.DeepFit
import Derived.Maps.AppendAt
import Derived.Shelf.RegionOpenPlain
import Derived.Lib.AppendZerosOnto
import Derived.Laws.NewBlocks
import Derived.Test.YthbljhmjppjcjaaGreatDoorMB3
import Derived.Test.YthbljhmjppjcjaaGreatDoorMB2
import Derived.Lib.Strings
import Derived.LoopTactic
import Derived.Lib.IndexLaws
import Derived.Lib.SmallJoins
import Derived.Lib.Join
import Derived.Deep.RegionHeld3
import Derived.Lib.BufferWrite
import Derived.Laws.CopyOwn
section
/- slices.Clone, Delete of one element, Insert of one element, at lists of items. -/
namespace Go.Proofs.YthbljhmjppjcjaaGreatDoor.Z
open Go.RowKit Go.Proofs.YthbljhmjppjcjaaGreatDoorW.PrintWords Go.Proofs.YthbljhmjppjcjaaGreatDoorW.PrintLast
set_option linter.unusedVariables false
theorem info_Item : (Tryz.prog.info? 71).map (fun i => (i.zero, i.size, i.bytes)) = some (some (.agg #[.string ⟨#[]⟩, .string ⟨#[]⟩]), 2, 32) := by kernel_rfl
set_option linter.unusedSimpArgs false
theorem k71_KM {w : World} {base : Nat} {ok : Nat → Prop} {x : S71} {cs : List Value} (h : k71.K w x cs) : k71.M w base ok x cs := by
  obtain rfl := k71_open h
  exact k71_mkM _ _ _ _
theorem k71_E : k71.E = [] := rfl
theorem k71_sz : k71.sz = 2 := rfl
def slices_Clone_api_Item_api_Item.f (l0 : List S71) : Option (List S71) := if l0.length * 32 ≤ 140737488355328 then some l0 else none
set_option maxRecDepth 100000 in
set_option maxHeartbeats 2000000 in
theorem slices_Clone_api_Item_api_Item.calls (A0 : Option Addr) (c0 : Nat) (l0 : List S71) (r : List S71) (w : World) (hr0 : Kd.C k71 w A0 l0.length l0) (hc0 : l0.length ≤ c0) (h : slices_Clone_api_Item_api_Item.f l0 = some r) :
    Calls Tryz.prog 28 #[.slice A0 l0.length c0] w fun e w' => ∃ v0_ : Value, e = .returned (v0_) ∧ Kd.R k71 71 w' w.heap.size (fun _ => True) v0_ r ∧ Below w.heap.size w w' := by
  unfold slices_Clone_api_Item_api_Item.f at h
  split at h
  case isFalse => cases h
  case isTrue hbig =>
    obtain rfl := Option.some.inj h
    have q22 : ∀ (w : World) (a : Option Addr) (n c n' c' : Nat), (binOp .eql 42 (.slice a n c) (.slice none n' c')).run Tryz.prog w = .ok (.bool a.isNone) w := fun w a n c n' c' => Lib.run_eql_slice_nil w _ _ a n c n' c' Tryz.underlying42
    have hmx := Kd.C_max hr0
    cases A0 with
    | none =>
      have hl : l0 = [] := by
        rcases Nat.eq_zero_or_pos l0.length with h0 | h0
        · exact List.eq_nil_of_length_eq_zero h0
        · obtain ⟨ad, _, he, _⟩ := C_cells hr0 h0; cases he
      subst hl
      clear hr0 hbig
      go_enter Tryz.func28, Tryz.ntmps28
      go_wp2
      go_ret
      exact ⟨_, rfl, Kd.R_nil _ _ _ _ _, Below.refl _ _⟩
    | some ad =>
      obtain ⟨i0, hi, hz0, hz1, hz2⟩ := info_parts info_Item
      obtain ⟨inner, hrep, hcell⟩ : ∃ inner, Reps (k71.K w) k71.sz l0 inner ∧ ∀ j u, inner[j]? = some u → w.cell? (ad.add j) = some u := by
        rcases Nat.eq_zero_or_pos l0.length with h0 | h0
        · have hl : l0 = [] := List.eq_nil_of_length_eq_zero h0
          subst hl; exact ⟨[], Reps.none _ _, fun j u hu => by simp at hu⟩
        · obtain ⟨ad2, inner, he, h1, h2⟩ := C_cells hr0 h0
          injection he with he; subst he; exact ⟨inner, h1, h2⟩
      have hrepM : ∀ w' base ok, Reps (k71.M w' base ok) k71.sz l0 inner := fun w' base ok => hrep.imp_ (fun _ _ hk => flat_M (base := base) k71_E (k71_KM (base := base) (ok := ok) hk))
      have hone := flat_one (hrepM w 0 (fun _ => True)) (by decide)
      have hil : inner.length = l0.length * 2 := hrep.1
      have HC := Aside0.mk hcell
      have HM := Aside0.mk hrepM
      have HI := Aside0.mk hil
      have HO := Aside0.mk hone
      clear hr0 hrep hcell hrepM hil hone
      go_enter Tryz.func28, Tryz.ntmps28
      go_wp2_with (at_builtin; refine wpList_append_own _ rfl _ _ 42 rfl w.heap.size 71 i0 _ 2 32 Tryz.underlying42 hi hz0 hz1 hz2 (by rfl) (by decide) _ _ _ rfl (World.ownsRow_made w #[] 0 (Nat.le_refl _) (Nat.zero_le _) (by simp)) ad l0.length c0 inner rfl ?qc1 ?qc2 ?qc3 ?qc4 ?qc5 ?qc6 ?_)
      case qc1 => exact HI.out
      case qc2 => intro j u hj; exact Lib.cell?_alloc_some _ (HC.out j u hj)
      case qc3 => exact HO.out
      case qc4 => unfold maxLen; omega
      intro v' w1 hown hgrow hnil
      go_wp2
      go_ret

      refine ⟨v', rfl, ⟨fun _ _ => trivial, inner, hown, ?_⟩, ((Below.refl _ w).alloc (Nat.le_refl _) _).grown hgrow (by simp) (by intro k hk; simp [Value.ownBlock] at hk; omega)⟩
      exact HM.out _ _ _
/-- One element taken out. -/
def slices_Delete_api_Item_api_Item.f (l0 : List S71) (a1 a2 : Int) : Option (List S71) := if 0 ≤ a1 ∧ a1 < l0.length ∧ a2 = a1 + 1 then some (l0.take a1.toNat ++ l0.drop (a1.toNat + 1)) else none
theorem take_cut {α : Type} (l : List α) (a b : Nat) (mid : List α) (tl : List α) (h : a ≤ l.length) (hm : mid.length = b) (n : Nat) (hn : n = a + b) : (l.take a ++ mid ++ tl).take n = l.take a ++ mid := by
  subst hn
  rw [List.take_append_of_le_length (by rw [List.length_append, List.length_take]; omega), List.take_of_length_le (by rw [List.length_append, List.length_take]; omega)]
set_option maxRecDepth 100000 in
set_option maxHeartbeats 4000000 in
theorem slices_Delete_api_Item_api_Item.calls (P0_ : Nat → Prop) (u9000_ : Value) (l0 : List S71) (a1 a2 : Int) (r : List S71) (w0 w : World) (hB : Below w0.heap.size w0 w) (ho0 : Kd.R k71 71 w w0.heap.size P0_ u9000_ l0) (h : slices_Delete_api_Item_api_Item.f l0 a1 a2 = some r) :
    Calls Tryz.prog 30 #[u9000_, .int .i64 a1, .int .i64 a2] w fun e w' => ∃ v0_ : Value, e = .returned (v0_) ∧ Kd.R k71 71 w' w0.heap.size (fun k_ => (P0_ k_ ∨ w.heap.size ≤ k_)) v0_ r ∧ Below w0.heap.size w0 w' ∧ Kept w w' (fun k_ => P0_ k_) := by
  unfold slices_Delete_api_Item_api_Item.f at h
  split at h
  case isFalse => cases h
  case isTrue hh =>
    obtain ⟨h1, h2, rfl⟩ := hh
    obtain rfl := Option.some.inj h
    clear h
    obtain ⟨i, rfl⟩ : ∃ i : Nat, a1 = i := ⟨a1.toNat, (Int.toNat_of_nonneg h1).symm⟩
    obtain ⟨g, cap, cur, inner, rfl, hbg, hok, hg, hnc, hcm, hsz, hil, hti, hrep⟩ := R_row k71_E ho0 (by omega)
    rw [k71_sz] at hsz hil hti
    obtain ⟨m, hn0⟩ : ∃ m, l0.length = i + m + 1 := ⟨l0.length - 1 - i, by omega⟩
    obtain ⟨n, hnm⟩ : ∃ n, n = i + m := ⟨_, rfl⟩
    have hn : l0.length = n + 1 := by omega
    have hin : i ≤ n := by omega
    rw [Int.toNat_natCast]
    have hcur : cur.toList.length = cap * 2 := by rw [Array.length_toList]; exact hsz
    unfold maxLen at hcm
    -- what stands behind it
    obtain ⟨news, hnews⟩ : ∃ news, news = inner.drop ((i + 1) * 2) := ⟨_, rfl⟩
    have hnl : news.length = (n - i) * 2 := by rw [hnews, List.length_drop, hil]; omega
    have hone : ∀ u ∈ news, u.oneCell' = true := fun u hu => flat_one (hrep w P0_) (by decide) u (by rw [hnews] at hu; exact List.mem_of_mem_drop hu)
    have hsrc : ∀ j u, news[j]? = some u → cur.toList[(i + 1) * 2 + j]? = some u := by
      intro j u hu
      rw [hnews, ← hti, List.getElem?_drop, List.getElem?_take] at hu
      split at hu
      · exact hu
      · cases hu
    have hgd : w.drew.heap[g]? = some (.cells cur 71 (0, 0)) := hg
    obtain ⟨cur1, hg1, hs1, ht1⟩ := setCells_row news (i * 2) w.drew cur hgd (by rw [hsz]; omega)
    obtain ⟨W1, hW1⟩ : ∃ W1, W1 = w.drew.setCells g (i * 2) news := ⟨_, rfl⟩
    rw [← hW1] at hg1
    have hz : (Builtin.zeroCells (Value.agg #[.string ⟨#[]⟩, .string ⟨#[]⟩]).cells 1).toList.length = 2 := by rw [Array.length_toList, size_zeroCells]; rfl
    obtain ⟨cur2, hg2, hs2, ht2⟩ := setCells_row (Builtin.zeroCells (Value.agg #[.string ⟨#[]⟩, .string ⟨#[]⟩]).cells 1).toList (n * 2) W1 cur1 hg1 (by rw [hz, hs1, hsz]; omega)
    obtain ⟨i0, hi, hz0, hz1, hz2⟩ := info_parts info_Item
    have hzero : ∀ w, (zeroValue 71).run Tryz.prog w = .ok (.agg #[.string ⟨#[]⟩, .string ⟨#[]⟩]) w := fun w => by simp [zeroValue, typeInfo, hi, hz0]
    have hclear := run_clear_k W1 42 71 0 (.agg #[.string ⟨#[]⟩, .string ⟨#[]⟩]) Tryz.underlying42 hzero (by decide) g (n * 2) 1 (cap - n) (by decide)
      (fun j hj => by rw [show (Value.agg #[.string ⟨#[]⟩, .string ⟨#[]⟩]).cells.size = 2 from rfl] at hj; exact row_some hg1 _ (by rw [hs1, hsz]; omega)) (fun j hj => blk_frozen hg1 _)
    obtain ⟨W2, hW2⟩ : ∃ W2, W2 = W1.setCells g (n * 2) (Builtin.zeroCells (Value.agg #[.string ⟨#[]⟩, .string ⟨#[]⟩]).cells 1).toList := ⟨_, rfl⟩
    rw [← hW2] at hclear hg2
    -- the end
    have hend : Kd.R k71 71 W2 w0.heap.size (fun k_ => (P0_ k_ ∨ w.heap.size ≤ k_)) (.slice (some ⟨g, 0, none⟩) n cap) (l0.take i ++ l0.drop (i + 1)) ∧ Below w0.heap.size w0 W2 ∧ Kept w W2 (fun k_ => P0_ k_) := by
      have hl : (l0.take i ++ l0.drop (i + 1)).length = n := by rw [List.length_append, List.length_take, List.length_drop]; omega
      refine ⟨?_, ?_, ?_⟩
      · have hR := R_of_row (d := k71) (e := 71) (base := w0.heap.size) (ok := fun k_ => (P0_ k_ ∨ w.heap.size ≤ k_)) (w := W2) (xs := l0.take i ++ l0.drop (i + 1)) (cap := cap) (inner := inner.take (i * 2) ++ news) hbg (.inl hok) hg2 (by omega) (by unfold maxLen; omega) (by rw [k71_sz, hs2, hs1, hsz])
          (by rw [k71_sz, hl, List.length_append, List.length_take, hnl, hil]; omega)
          (by
            rw [k71_sz, hl, ht2, ht1, List.append_assoc, List.append_assoc]
            have e1 : (cur.toList.take (i * 2) ++ (news ++ cur.toList.drop (i * 2 + news.length))).take (n * 2) = inner.take (i * 2) ++ news := by
              rw [← List.append_assoc, take_cut _ (i * 2) news.length _ _ (by omega) rfl (n * 2) (by omega), ← hti, List.take_take, Nat.min_eq_left (by omega)]
            rw [List.take_append_of_le_length (by rw [List.length_take, List.length_append, List.length_take, List.length_append, List.length_drop]; omega), List.take_take, Nat.min_self, e1])
          (fun ok' => by
            refine Kd.reps_append ?_ ?_
            · exact Kd.reps_take (hrep W2 ok') (by omega)
            · rw [hnews]; exact Kd.reps_drop (hrep W2 ok'))
        rw [hl] at hR
        exact hR
      · rw [hW2, hW1]
        exact below_setCells (below_setCells (below_drew hB) hbg _ _) hbg _ _
      · rw [hW2, hW1]
        exact kept_setCells (kept_setCells ((Kept.refl w _).drew) (.inl hok) _ _) (.inl hok) _ _
    have hsT : ∀ W : World, (sizeOf 71).run Tryz.prog W = .ok 2 W := fun W => by simp [sizeOf, typeInfo, hi, hz1]
    obtain ⟨ad, hcutB, had⟩ : ∃ ad : Addr, (∀ W : World, (Instr.slice 42 (.slice (some ⟨g, 0, none⟩) (i + m + 1) cap) (some (.int .i64 ((i : Int) + 1))) none none).run Tryz.prog W = .ok (.slice (some ad) m (cap - (i + 1))) W) ∧ ∀ j u, news[j]? = some u → w.drew.cell? (ad.add j) = some u := by
      have hel : Tryz.prog.elem 42 = 71 := by simp [Program.elem, Tryz.underlying42]
      have hu : Tryz.prog.underlying 42 = some (.slice (Tryz.prog.elem 42)) := by rw [hel]; exact Tryz.underlying42
      have hrun : ∀ W : World, (Instr.slice 42 (.slice (some ⟨g, 0, none⟩) (i + m + 1) cap) (some (.int .i64 ((i : Int) + 1))) none none).run Tryz.prog W = .ok (sliced (some ⟨g, 0, none⟩) (i + 1) (i + m + 1) cap 2) W := fun W => by
        rw [run_slice_l W 42 (some ⟨g, 0, none⟩) (i + m + 1) cap hu .i64 ((i : Int) + 1) (by omega) (by omega), hel]
        have : ((i : Int) + 1).toNat = i + 1 := by omega
        simp [hsT, Result.andThen, this]
      by_cases hc : cap = i + 1
      · refine ⟨⟨g, 0, none⟩, fun W => ?_, fun j u hu => ?_⟩
        · rw [hrun W]; unfold sliced; rw [if_pos hc, show i + m + 1 - (i + 1) = m by omega]
        · have := (List.getElem?_eq_some_iff.1 hu).1; omega
      · refine ⟨⟨g, (i + 1) * 2, none⟩, fun W => ?_, fun j u hu => ?_⟩
        · rw [hrun W]; unfold sliced; rw [if_neg hc, show i + m + 1 - (i + 1) = m by omega]; simp [Addr.add]
        · rw [add_at]
          show w.cell? _ = _
          rw [row_cell hg]
          exact hsrc j u hu
    have hcutA : ∀ W : World, (Instr.slice 42 (.slice (some ⟨g, 0, none⟩) (i + m + 1) cap) none (some (.int .i64 (i : Int))) none).run Tryz.prog W = .ok (.slice (some ⟨g, 0, none⟩) i cap) W := fun W => by
      have hel : Tryz.prog.elem 42 = 71 := by simp [Program.elem, Tryz.underlying42]
      have hu : Tryz.prog.underlying 42 = some (.slice (Tryz.prog.elem 42)) := by rw [hel]; exact Tryz.underlying42
      rw [run_slice_h W 42 (some ⟨g, 0, none⟩) (i + m + 1) cap hu .i64 (i : Int) (by omega) (by omega), hel]
      simp [hsT, Result.andThen, sliced, Addr.add]
    have hcutC : ∀ W : World, (Instr.slice 42 (.slice (some ⟨g, 0, none⟩) (i + m) cap) (some (.int .i64 ((i : Int) + (m : Int)))) (some (.int .i64 ((i : Int) + (m : Int) + 1))) none).run Tryz.prog W = .ok (.slice (some ⟨g, n * 2, none⟩) 1 (cap - n)) W := fun W => by
      have hel : Tryz.prog.elem 42 = 71 := by simp [Program.elem, Tryz.underlying42]
      have hu : Tryz.prog.underlying 42 = some (.slice (Tryz.prog.elem 42)) := by rw [hel]; exact Tryz.underlying42
      rw [run_slice_lh W 42 (some ⟨g, 0, none⟩) (i + m) cap hu .i64 .i64 ((i : Int) + (m : Int)) ((i : Int) + (m : Int) + 1) (by omega) (by omega) (by omega), hel]
      have e1 : ((i : Int) + (m : Int)).toNat = i + m := by omega
      have e2 : ((i : Int) + (m : Int) + 1).toNat = i + m + 1 := by omega
      have e3 : ¬ (cap = i + m) := by omega
      simp [hsT, Result.andThen, sliced, Addr.add, e1, e2, e3, hnm]
      intro h0; omega
    have hspare : ∀ j, j < news.length → (w.drew.cell? ⟨g, 0 + i * 2 + j, none⟩).isSome = true ∧ w.drew.frozen? ⟨g, 0 + i * 2 + j, none⟩ = false := fun j hj =>
      ⟨row_some hgd _ (by rw [hsz]; omega), blk_frozen hgd _⟩
    have hb1 : (i : Int) + 1 ≤ (i : Int) + (m : Int) + 1 := by omega
    have hb2 : (i : Int) + (m : Int) + 1 ≤ (cap : Int) := by omega
    have hb3 : ((i : Int) == (i : Int) + 1) = false := by rw [beq_eq_false_iff_ne]; omega
    have hnl2 : news.length = m * 2 := by rw [hnl]; omega
    have hroom : i + m ≤ cap := by omega
    have HADD := Aside0.mk had
    rw [hnm, hW1] at hclear
    rw [hW2, hW1, hnm] at hend
    have HEND := Aside0.mk hend
    have HCL := Aside0.mk hclear
    have HONE := Aside0.mk hone
    have HSP := Aside0.mk hspare
    rw [hn0]
    clear hclear had hone hspare hend hrep ho0 hB ht2 hg2 hs2 ht1 hil hti hnews hn hsrc hcur hs1 hz hg hgd hg1 hnl
    go_enter Tryz.func30, Tryz.ntmps30
    go_wp2
    go_region_law (refine step_append_room rfl _ _ 42 rfl 71 i0 2 Tryz.underlying42 hi hz1 g 0 i cap (by simp [Act.eval, Act.put]) ad m (cap - (i + 1)) news (by simp [Act.eval, Act.put]) hnl2 HADD.out HONE.out hroom HSP.out ?_)
    go_wp2
    rw [HCL.out]
    go_wp2
    go_ret
    exact ⟨_, rfl, HEND.out⟩
/-- One element put in. -/
def slices_Insert_api_Item_api_Item.f (l0 : List S71) (a1 : Int) (l2 : List S71) : Option (List S71) := if 0 ≤ a1 ∧ a1 ≤ l0.length ∧ l2.length = 1 ∧ (l0.length + 1) * 32 ≤ 140737488355328 then some (l0.take a1.toNat ++ l2 ++ l0.drop a1.toNat) else none
set_option maxRecDepth 100000 in
set_option maxHeartbeats 4000000 in
theorem ins_end (P0_ : Nat → Prop) (u : Value) (l0 l2 : List S71) (vb c2 : Nat) (vs : List Value) (w0 w : World) (hB : Below w0.heap.size w0 w) (ho0 : Kd.R k71 71 w w0.heap.size P0_ u l0)
    (hvl : vs.length = 1 * 2) (hl2 : l2.length = 1) (hvc : ∀ j x, vs[j]? = some x → w.cell? ⟨vb, j, none⟩ = some x) (h1v : ∀ x ∈ vs, x.oneCell' = true) (hvM : ∀ w' ok, Reps (k71.M w' w0.heap.size ok) k71.sz l2 vs) (hbig : (l0.length + 1) * 32 ≤ 140737488355328) :
    Calls Tryz.prog 31 #[u, .int .i64 (l0.length : Int), .slice (some ⟨vb, 0, none⟩) 1 c2] w fun e w' => ∃ v0_ : Value, e = .returned (v0_) ∧ Kd.R k71 71 w' w0.heap.size (fun k_ => (P0_ k_ ∨ w.heap.size ≤ k_)) v0_ (l0 ++ l2) ∧ Below w0.heap.size w0 w' ∧ Kept w w' (fun k_ => P0_ k_) := by
  obtain ⟨i0, hi, hz0, hz1, hz2⟩ := info_parts info_Item
  obtain ⟨h0, inner, hown, hrep⟩ := ho0
  have hlow := hB.size
  have HOWN := Aside0.mk hown
  have HVC := Aside0.mk hvc
  have H1V := Aside0.mk h1v
  have HL := Aside0.mk hlow
  have HREP : Aside0 (∀ w' ok, Reps (k71.M w' w0.heap.size ok) k71.sz (l0 ++ l2) (inner ++ vs)) := ⟨fun w' ok => Kd.reps_append (hrep.imp_ (fun _ _ hm => flat_M k71_E hm)) (hvM w' ok)⟩
  have H0 := Aside0.mk h0
  have HB := Aside0.mk hB
  have fin : ∀ v' w1, w1.ownsRow w0.heap.size 71 2 v' (l0.length + 1) (inner ++ vs) → w.grownBy w1 u.ownBlock → (v'.ownBlock = u.ownBlock ∨ v'.ownBlock = some w.heap.size) →
      Kd.R k71 71 w1 w0.heap.size (fun k_ => (P0_ k_ ∨ w.heap.size ≤ k_)) v' (l0 ++ l2) ∧ Below w0.heap.size w0 w1 ∧ Kept w w1 (fun k_ => P0_ k_) := by
    intro v' w1 ho hg hat
    have hb : ∀ k, u.ownBlock = some k → w0.heap.size ≤ k := fun k hk => by
      rcases HOWN.out.2 with ⟨rfl, _⟩ | ⟨g, cap, cur, rfl, hbg, _⟩
      · cases hk
      · have : g = k := by simpa [Value.ownBlock] using hk
        omega
    refine ⟨⟨fun k hk => ?_, inner ++ vs, ?_, HREP.out _ _⟩, HB.out.grown hg HL.out hb, Kept.of_grown hg (Kept.refl _ _) (fun k hk => .inl (H0.out k hk))⟩
    · rcases hat with hat | hat
      · exact .inl (H0.out k (hat ▸ hk))
      · rw [hat] at hk; injection hk with hk; exact .inr (by omega)
    · rw [List.length_append, hl2]; exact ho
  have FIN := Aside0.mk fin
  have hb1 : (l0.length : Int) = (l0.length : Int) := rfl
  have hmx : l0.length ≤ maxLen := by unfold maxLen; omega
  unfold maxLen at hmx
  clear hvc h1v hlow fin
  rcases hown with ⟨hl, ⟨rfl, hn⟩ | ⟨g, cap, cur, rfl, hbg, hg, hnc, hcm, hsz, ht⟩⟩
  · rw [hn] at HOWN FIN hbig ⊢
    clear hl hrep
    go_enter Tryz.func31, Tryz.ntmps31
    go_wp2_with (at_builtin; refine wpList_append_own_at _ rfl _ _ 42 rfl w0.heap.size 71 i0 _ 2 32 Tryz.underlying42 hi hz0 hz1 hz2 (by rfl) (by decide) _ _ _ rfl HOWN.out ⟨vb, 0, none⟩ 1 c2 vs rfl ?qc1 ?qc2 ?qc3 ?qc4 ?qc5 ?qc6 ?_)
    case qc2 => exact HVC.out
    case qc3 => exact H1V.out
    case qc4 => unfold maxLen; omega
    case qc6 => exact HL.out
    intro v' w1 ho hg hn hat
    have ho' : w1.ownsRow w0.heap.size 71 2 v' (0 + 1) (inner ++ vs) := ho
    have HR := Aside0.mk (FIN.out v' w1 ho' hg hat)
    clear ho hg hn hat ho'
    go_wp2
    go_ret
    exact ⟨_, rfl, HR.out⟩
  · unfold maxLen at hcm
    clear hl hrep ht hg hsz hbg
    by_cases hc : cap = l0.length
    · subst hc
      go_enter Tryz.func31, Tryz.ntmps31
      go_wp2_with (at_builtin; refine wpList_append_own_at _ rfl _ _ 42 rfl w0.heap.size 71 i0 _ 2 32 Tryz.underlying42 hi hz0 hz1 hz2 (by rfl) (by decide) _ _ _ rfl HOWN.out ⟨vb, 0, none⟩ 1 c2 vs rfl ?qd1 ?qd2 ?qd3 ?qd4 ?qd5 ?qd6 ?_)
      case qd2 => exact HVC.out
      case qd3 => exact H1V.out
      case qd4 => unfold maxLen; omega
      case qd6 => exact HL.out
      intro v' w1 ho hg hn hat
      have HR := Aside0.mk (FIN.out v' w1 ho hg hat)
      clear ho hg hn hat
      go_wp2
      go_ret
      exact ⟨_, rfl, HR.out⟩
    · go_enter Tryz.func31, Tryz.ntmps31
      go_wp2_with (at_builtin; refine wpList_append_own_at _ rfl _ _ 42 rfl w0.heap.size 71 i0 _ 2 32 Tryz.underlying42 hi hz0 hz1 hz2 (by rfl) (by decide) _ _ _ rfl HOWN.out ⟨vb, 0, none⟩ 1 c2 vs rfl ?qe1 ?qe2 ?qe3 ?qe4 ?qe5 ?qe6 ?_)
      case qe2 => exact HVC.out
      case qe3 => exact H1V.out
      case qe4 => unfold maxLen; omega
      case qe6 => exact HL.out
      intro v' w1 ho hg hn hat
      have HR := Aside0.mk (FIN.out v' w1 ho hg hat)
      clear ho hg hn hat
      go_wp2
      go_ret
      exact ⟨_, rfl, HR.out⟩
theorem ins_cut (cur cur1 cur2 inner vs news : List Value) (i n : Nat) (hti : cur.take (n * 2) = inner) (hn : i < n) (hl : (n + 1) * 2 ≤ cur.length) (hv : vs.length = 2) (hnl : news.length = (n - i) * 2)
    (ht1 : cur1 = cur.take ((i + 1) * 2) ++ news ++ cur.drop ((i + 1) * 2 + news.length)) (ht2 : cur2 = cur1.take (i * 2) ++ vs ++ cur1.drop (i * 2 + vs.length)) : cur2.take ((n + 1) * 2) = inner.take (i * 2) ++ vs ++ news := by
  have e1 : cur1.take (i * 2) = inner.take (i * 2) := by
    rw [ht1, List.append_assoc, List.take_append_of_le_length (by rw [List.length_take]; omega), List.take_take, Nat.min_eq_left (by omega), ← hti, List.take_take, Nat.min_eq_left (by omega)]
  have e2 : cur1.drop (i * 2 + vs.length) = news ++ cur.drop ((i + 1) * 2 + news.length) := by
    rw [ht1, List.append_assoc]
    exact List.drop_left' (by rw [List.length_take]; omega)
  rw [ht2, e1, e2, ← List.append_assoc]
  refine List.take_left' ?_
  have : inner.length = n * 2 := by rw [← hti, List.length_take]; omega
  simp only [List.length_append, List.length_take, hv, hnl]
  omega
theorem mid_len {α : Type} (l l2 : List α) (i : Nat) (hi : i ≤ l.length) (h2 : l2.length = 1) : (l.take i ++ l2 ++ l.drop i).length = l.length + 1 := by
  simp only [List.length_append, List.length_take, List.length_drop, h2]; omega
set_option maxRecDepth 100000 in
set_option maxHeartbeats 4000000 in
theorem ins_room (P0_ : Nat → Prop) (l0 l2 : List S71) (vb c2 g cap i : Nat) (cur curv : Array Value) (inner vs : List Value) (w0 w : World) (hB : Below w0.heap.size w0 w)
    (hbg : w0.heap.size ≤ g) (hok : P0_ g) (hg : w.heap[g]? = some (.cells cur 71 (0, 0))) (hcm : cap ≤ maxLen) (hsz : cur.size = cap * 2) (hil : inner.length = l0.length * 2) (hti : cur.toList.take (l0.length * 2) = inner)
    (hrep : ∀ w' ok', Reps (k71.M w' w0.heap.size ok') k71.sz l0 inner) (hin : i < l0.length) (hroom : l0.length + 1 ≤ cap) (hvb : vb ≠ g) (hvg : w.heap[vb]? = some (.cells curv 71 (0, 0))) (hl2 : l2.length = 1)
    (hvl : vs.length = 2) (hvc : ∀ j x, vs[j]? = some x → w.cell? ⟨vb, j, none⟩ = some x) (h1v : ∀ x ∈ vs, x.oneCell' = true) (hvM : ∀ w' ok, Reps (k71.M w' w0.heap.size ok) k71.sz l2 vs) :
    Calls Tryz.prog 31 #[.slice (some ⟨g, 0, none⟩) l0.length cap, .int .i64 (i : Int), .slice (some ⟨vb, 0, none⟩) 1 c2] w fun e w' => ∃ v0_ : Value, e = .returned (v0_) ∧ Kd.R k71 71 w' w0.heap.size (fun k_ => (P0_ k_ ∨ w.heap.size ≤ k_)) v0_ (l0.take i ++ l2 ++ l0.drop i) ∧ Below w0.heap.size w0 w' ∧ Kept w w' (fun k_ => P0_ k_) := by
  obtain ⟨i0, hi, hz0, hz1, hz2⟩ := info_parts info_Item
  obtain ⟨n, hn⟩ : ∃ n, n = l0.length := ⟨_, rfl⟩
  have hsT : ∀ W : World, (sizeOf 71).run Tryz.prog W = .ok 2 W := fun W => by simp [sizeOf, typeInfo, hi, hz1]
  have hsm : (Tryz.prog.info? 71).map (·.size) = some 2 := by rw [hi]; simp [hz1]
  have hlen := mid_len l0 l2 i (by omega) hl2
  rw [← hn] at hil hti hin hroom hlen ⊢
  unfold maxLen at hcm
  obtain ⟨news, hnews⟩ : ∃ news, news = inner.drop (i * 2) := ⟨_, rfl⟩
  have hnl : news.length = (n - i) * 2 := by rw [hnews, List.length_drop, hil]; omega
  have hone : ∀ u ∈ news, u.oneCell' = true := fun u hu => flat_one (hrep w P0_) (by decide) u (by rw [hnews] at hu; exact List.mem_of_mem_drop hu)
  have hsrc : ∀ j u, news[j]? = some u → cur.toList[i * 2 + j]? = some u := by
    intro j u hu
    rw [hnews, ← hti, List.getElem?_drop, List.getElem?_take] at hu
    split at hu
    · exact hu
    · cases hu
  have hgd : w.drew.heap[g]? = some (.cells cur 71 (0, 0)) := hg
  obtain ⟨cur1, hg1, hs1, ht1⟩ := setCells_row news ((i + 1) * 2) w.drew cur hgd (by rw [hsz]; omega)
  obtain ⟨cur2, hg2, hs2, ht2⟩ := setCells_row vs (i * 2) (w.drew.setCells g ((i + 1) * 2) news) cur1 hg1 (by rw [hs1, hsz]; omega)
  have hend : Kd.R k71 71 ((w.drew.setCells g ((i + 1) * 2) news).setCells g (i * 2) vs) w0.heap.size (fun k_ => (P0_ k_ ∨ w.heap.size ≤ k_)) (.slice (some ⟨g, 0, none⟩) (n + 1) cap) (l0.take i ++ l2 ++ l0.drop i) ∧ Below w0.heap.size w0 ((w.drew.setCells g ((i + 1) * 2) news).setCells g (i * 2) vs) ∧ Kept w ((w.drew.setCells g ((i + 1) * 2) news).setCells g (i * 2) vs) (fun k_ => P0_ k_) := by
    refine ⟨?_, below_setCells (below_setCells (below_drew hB) hbg _ _) hbg _ _, kept_setCells (kept_setCells ((Kept.refl w _).drew) (.inl hok) _ _) (.inl hok) _ _⟩
    have hR := R_of_row (d := k71) (e := 71) (base := w0.heap.size) (ok := fun k_ => (P0_ k_ ∨ w.heap.size ≤ k_)) (xs := l0.take i ++ l2 ++ l0.drop i) (cap := cap) (inner := inner.take (i * 2) ++ vs ++ news) hbg (.inl hok) hg2 (by omega) (by unfold maxLen; omega) (by rw [k71_sz, hs2, hs1, hsz])
      (by rw [k71_sz, hlen, List.length_append, List.length_append, List.length_take, hnl, hvl, hil]; omega)
      (by rw [k71_sz, hlen]; exact ins_cut cur.toList cur1.toList cur2.toList inner vs news i n hti hin (by rw [Array.length_toList, hsz]; omega) hvl hnl ht1 ht2)
      (fun ok' => Kd.reps_append (Kd.reps_append (Kd.reps_take (hrep _ ok') (by omega)) (hvM _ ok')) (by rw [hnews]; exact Kd.reps_drop (hrep _ ok')))
    rw [hlen] at hR
    exact hR
  have hov : ∀ lb cb, (callFunc 55 #[.slice (some ⟨vb, 0, none⟩) 1 c2, .slice (some ⟨g, (i + 1) * 2, none⟩) lb cb]).run Tryz.prog w = .ok (.value (.bool false)) w := fun lb cb => by
    rw [run_callFunc_extern Tryz.func55 (by kernel_rfl) (by kernel_rfl) (by kernel_rfl) (e := Extern.SlicesOverlaps.overlaps #[42, 42] #[4]) (by kernel_rfl),
      Lib.run_overlaps_apart w 42 4 71 Tryz.underlying42 2 hsT ⟨vb, 0, none⟩ ⟨g, (i + 1) * 2, none⟩ 1 c2 lb cb hvb 71 71 curv.size cur.size (by simp [World.shape?, hvg]) (by simp [World.shape?, hg]) (by rw [hsz]; omega) (by simp [World.frozen?, hvg]) (by simp [World.frozen?, hvg])]
    rfl
  have hcp1 : ∀ ty dc sc, (Builtin.copy_ #[42, 42] ty #[.slice (some ⟨g, (i + 1) * 2, none⟩) (n - i) dc, .slice (some ⟨g, i * 2, none⟩) (n + 1 - i) sc]).run Tryz.prog w.drew = .ok (goInt (Nat.min (n + 1 - i) (n - i))) (w.drew.setCells g ((i + 1) * 2) news) := fun ty dc sc =>
    run_copy_k w.drew 42 42 ty 71 g ((i + 1) * 2) (n - i) dc ⟨g, i * 2, none⟩ (n + 1 - i) sc 2 news Tryz.underlying42 hsm (by rw [hnl]; simp only [Nat.min_def]; split <;> omega)
      (fun j v hj => by rw [add_at, row_cell hgd]; exact hsrc j v hj)
      (fun j hj => row_some hgd _ (by rw [hsz]; omega)) (fun j hj => blk_frozen hgd _) hone
  have hcp2 : ∀ ty dc, (Builtin.copy_ #[42, 42] ty #[.slice (some ⟨g, i * 2, none⟩) (n + 1 - i) dc, .slice (some ⟨vb, 0, none⟩) 1 c2]).run Tryz.prog (w.drew.setCells g ((i + 1) * 2) news) = .ok (goInt (Nat.min 1 (n + 1 - i))) ((w.drew.setCells g ((i + 1) * 2) news).setCells g (i * 2) vs) := fun ty dc =>
    run_copy_k _ 42 42 ty 71 g (i * 2) (n + 1 - i) dc ⟨vb, 0, none⟩ 1 c2 2 vs Tryz.underlying42 hsm (by rw [hvl]; simp only [Nat.min_def]; split <;> omega)
      (fun j v hj => by
        have := hvc j v hj
        rw [add_at, Nat.zero_add, World.cell?_of_block (w := w)]
        · exact this
        · exact setCells_far news _ vb (fun e => hvb e))
      (fun j hj => row_some hg1 _ (by rw [hs1, hsz]; omega)) (fun j hj => blk_frozen hg1 _) h1v
  have HEND := Aside0.mk hend
  have HCA := Aside0.mk hcp1
  have HCB := Aside0.mk hcp2
  have hw1 : IntKind.i64.wrap ((i : Int) + 1) = (i : Int) + 1 := by rw [IntKind.wrap_i64]; omega
  have hw2 : IntKind.i64.wrap ((n : Int) + 1) = (n : Int) + 1 := by rw [IntKind.wrap_i64]; omega
  have hin2 : i ≤ n := by omega
  have htn : ((i : Int) + 1).toNat = i + 1 := by omega
  have htn2 : ((n : Int) + 1).toNat = n + 1 := by omega
  have hb2 : ¬ (cap = i + 1) := by omega
  have hb1 : (0 : Int) ≤ (i : Int) + 1 := by omega
  have hb5 : (i : Int) ≤ (n : Int) + 1 := by omega
  have hb3 : (i : Int) + 1 ≤ (n : Int) + 1 := by omega
  have hb4 : ¬ (cap = i) := by omega
  have hz2' : ¬ ((i : Int) = (n : Int)) := by omega
  have hz3 : ¬ ((cap : Int) < (n : Int) + 1) := by omega
  have mixed : Tryz.prog.follows .mixedOrders = true := by kernel_rfl
  clear hn
  clear hend hcp1 hcp2 hg2 hg1 hgd hs2 hs1 ht2 ht1 hsrc hone hnl hnews hrep hti hil hsz hg hvg hvc h1v hvM hB hvl hlen hl2
  go_enter Tryz.func31, Tryz.ntmps31
  go_wp2_with (simp only [hov])
  go_region_law_o (refine step_copy_run_ rfl _ _ 42 42 rfl (.slice (some ⟨g, (i + 1) * 2, none⟩) (n - i) (cap - (i + 1))) (.slice (some ⟨g, i * 2, none⟩) (n + 1 - i) (cap - i)) (by simp [Act.eval, Act.put]) (by simp [Act.eval, Act.put]) (HCA.out _ _ _) ?_)
  go_wp2
  rw [HCB.out]
  go_wp2
  go_ret
  exact ⟨_, rfl, HEND.out⟩
set_option maxRecDepth 100000 in
set_option maxHeartbeats 4000000 in
theorem ins_grow (P0_ : Nat → Prop) (l0 l2 : List S71) (vb c2 g cap i : Nat) (cur curv : Array Value) (inner vs : List Value) (w0 w : World) (hB : Below w0.heap.size w0 w)
    (hbg : w0.heap.size ≤ g) (hok : P0_ g) (hg : w.heap[g]? = some (.cells cur 71 (0, 0))) (hcm : cap ≤ maxLen) (hsz : cur.size = cap * 2) (hil : inner.length = l0.length * 2) (hti : cur.toList.take (l0.length * 2) = inner)
    (hrep : ∀ w' ok', Reps (k71.M w' w0.heap.size ok') k71.sz l0 inner) (hin : i < l0.length) (hnc : l0.length ≤ cap) (hroom : cap < l0.length + 1) (hbig : (l0.length + 1) * 32 ≤ 140737488355328) (hvb : vb ≠ g) (hvg : w.heap[vb]? = some (.cells curv 71 (0, 0))) (hl2 : l2.length = 1)
    (hvl : vs.length = 2) (hvc : ∀ j x, vs[j]? = some x → w.cell? ⟨vb, j, none⟩ = some x) (h1v : ∀ x ∈ vs, x.oneCell' = true) (hvM : ∀ w' ok, Reps (k71.M w' w0.heap.size ok) k71.sz l2 vs) :
    Calls Tryz.prog 31 #[.slice (some ⟨g, 0, none⟩) l0.length cap, .int .i64 (i : Int), .slice (some ⟨vb, 0, none⟩) 1 c2] w fun e w' => ∃ v0_ : Value, e = .returned (v0_) ∧ Kd.R k71 71 w' w0.heap.size (fun k_ => (P0_ k_ ∨ w.heap.size ≤ k_)) v0_ (l0.take i ++ l2 ++ l0.drop i) ∧ Below w0.heap.size w0 w' ∧ Kept w w' (fun k_ => P0_ k_) := by
  obtain ⟨i0, hi, hz0, hz1, hz2⟩ := info_parts info_Item
  obtain ⟨n, hn⟩ : ∃ n, n = l0.length := ⟨_, rfl⟩
  have hsT : ∀ W : World, (sizeOf 71).run Tryz.prog W = .ok 2 W := fun W => by simp [sizeOf, typeInfo, hi, hz1]
  have hsm : (Tryz.prog.info? 71).map (·.size) = some 2 := by rw [hi]; simp [hz1]
  have hlen := mid_len l0 l2 i (by omega) hl2
  rw [← hn] at hil hti hin hroom hlen hbig hnc ⊢
  unfold maxLen at hcm
  obtain ⟨news, hnews⟩ : ∃ news, news = inner.drop (i * 2) := ⟨_, rfl⟩
  have hnl : news.length = (n - i) * 2 := by rw [hnews, List.length_drop, hil]; omega
  have hone0 : ∀ u ∈ inner, u.oneCell' = true := flat_one (hrep w P0_) (by decide)
  have hone : ∀ u ∈ news, u.oneCell' = true := fun u hu => hone0 u (by rw [hnews] at hu; exact List.mem_of_mem_drop hu)
  have hsrc0 : ∀ (j : Nat) (u : Value), inner[j]? = some u → cur.toList[j]? = some u := by
    intro j u hu
    rw [← hti, List.getElem?_take] at hu
    split at hu
    · exact hu
    · cases hu
  have hsrc : ∀ (j : Nat) (u : Value), news[j]? = some u → cur.toList[i * 2 + j]? = some u := fun j u hu => hsrc0 _ u (by rwa [hnews, List.getElem?_drop] at hu)
  have hgb : g < w.heap.size := by
    rcases Nat.lt_or_ge g w.heap.size with h | h
    · exact h
    · rw [Array.getElem?_eq_none h] at hg; cases hg
  have hvbw : vb < w.heap.size := by
    rcases Nat.lt_or_ge vb w.heap.size with h | h
    · exact h
    · rw [Array.getElem?_eq_none h] at hvg; cases hvg
  have hgd : w.drew.heap[g]? = some (.cells cur 71 (0, 0)) := hg
  have hold : (Builtin.firstCells i0.size i (.slice (some ⟨g, 0, none⟩) i cap)).run Tryz.prog w.drew = .ok (inner.take (i * 2)).toArray w.drew := by
    rw [hz1]
    exact run_firstCells_some w.drew 2 i ⟨g, 0, none⟩ i cap (inner.take (i * 2)) (by rw [List.length_take]; omega) (fun j v hj => by
      rw [add_at, row_cell hgd, Nat.zero_add]
      rw [List.getElem?_take] at hj
      split at hj
      · exact hsrc0 j v hj
      · cases hj)
  have hkk : (n : Int) + 1 - (i : Int) = ((n + 1 - i : Nat) : Int) := by omega
  have hik : i + (n + 1 - i) = n + 1 := by omega
  obtain ⟨G, hG⟩ : ∃ G, G = grownCap w (n + 1) cap 71 := ⟨_, rfl⟩
  have hGn : n + 1 ≤ G := by rw [hG]; exact grownCap_ge w _ _ _
  have hG63 : G ≤ 9223372036854775807 := by
    have := grownCap_le_maxLen w (n + 1) cap 71 (by unfold maxLen; omega)
    rw [← hG] at this
    unfold maxLen at this
    omega
  obtain ⟨ROW, hROW⟩ : ∃ ROW : Array Value, ROW = (inner.take (i * 2)).toArray ++ Builtin.zeroCells (Value.agg #[.string ⟨#[]⟩, .string ⟨#[]⟩]).cells (n + 1 - i) ++ Builtin.zeroCells (Value.agg #[.string ⟨#[]⟩, .string ⟨#[]⟩]).cells (G - (n + 1)) := ⟨_, rfl⟩
  have hRs : ROW.size = G * 2 := by
    rw [hROW]
    simp only [Array.size_append, size_zeroCells, List.size_toArray, List.length_take, hil]
    rw [show (Value.agg #[.string ⟨#[]⟩, .string ⟨#[]⟩]).cells.size = 2 from rfl]
    omega
  have hrz : ∀ ty, (Builtin.append_ #[42, 3] ty #[.slice (some ⟨g, 0, none⟩) i cap, .int .i64 ((n : Int) + 1 - (i : Int))]).run Tryz.prog w =
      .ok (.slice (some ⟨w.heap.size, 0, none⟩) (n + 1) G) (w.drew.alloc (.cells ROW 71)) := fun ty => by
    have h := Go.Lib.run_append_grow_zeros w 42 3 ty 71 i0 _ .i64 .i64 Tryz.underlying42 Tryz.underlying3 hi hz0 (some ⟨g, 0, none⟩) i cap (inner.take (i * 2)) hold (n + 1 - i) (by omega) (by omega) (by omega) (by omega) (by rw [hz2]; omega) (by rw [hz2, hik]; exact growslice_fits hroom hbig)
    rw [hik] at h
    rw [hkk, h, ← hG, ← hROW]
  have hg0 : ((w.alloc (.cells ROW 71)).drew).heap[w.heap.size]? = some (.cells ROW 71 (0, 0)) := by
    show (w.heap.push _)[w.heap.size]? = _
    simp
  obtain ⟨cur1, hg1, hs1, ht1⟩ := setCells_row vs (i * 2) ((w.alloc (.cells ROW 71)).drew) ROW hg0 (by rw [hRs]; omega)
  obtain ⟨cur2, hg2, hs2, ht2⟩ := setCells_row news ((i + 1) * 2) (((w.alloc (.cells ROW 71)).drew).setCells w.heap.size (i * 2) vs).drew cur1 hg1 (by rw [hs1, hRs]; omega)
  have hlow := hB.size
  have hend : Kd.R k71 71 (((((w.alloc (.cells ROW 71)).drew).setCells w.heap.size (i * 2) vs).drew).setCells w.heap.size ((i + 1) * 2) news) w0.heap.size (fun k_ => (P0_ k_ ∨ w.heap.size ≤ k_)) (.slice (some ⟨w.heap.size, 0, none⟩) (n + 1) G) (l0.take i ++ l2 ++ l0.drop i) ∧ Below w0.heap.size w0 (((((w.alloc (.cells ROW 71)).drew).setCells w.heap.size (i * 2) vs).drew).setCells w.heap.size ((i + 1) * 2) news) ∧ Kept w (((((w.alloc (.cells ROW 71)).drew).setCells w.heap.size (i * 2) vs).drew).setCells w.heap.size ((i + 1) * 2) news) (fun k_ => P0_ k_) := by
    refine ⟨?_, below_setCells (below_drew (below_setCells (below_drew (below_alloc hB _)) hlow _ _)) hlow _ _, kept_setCells ((kept_setCells (((Kept.refl w _).alloc _).drew) (.inr (Nat.le_refl _)) _ _).drew) (.inr (Nat.le_refl _)) _ _⟩
    have hR := R_of_row (d := k71) (e := 71) (base := w0.heap.size) (ok := fun k_ => (P0_ k_ ∨ w.heap.size ≤ k_)) (xs := l0.take i ++ l2 ++ l0.drop i) (cap := G) (inner := inner.take (i * 2) ++ vs ++ news) hlow (.inr (Nat.le_refl _)) hg2 (by omega) (by unfold maxLen; omega) (by rw [k71_sz, hs2, hs1, hRs])
      (by rw [k71_sz, hlen, List.length_append, List.length_append, List.length_take, hnl, hvl, hil]; omega)
      (by
        rw [k71_sz, hlen, ht2]
        have e0 : ROW.toList.take (i * 2) = inner.take (i * 2) := by
          rw [hROW, Array.toList_append, Array.toList_append, List.append_assoc]
          exact List.take_left' (by rw [List.length_take]; omega)
        have e1 : cur1.toList.take ((i + 1) * 2) = inner.take (i * 2) ++ vs := by
          rw [ht1, e0]
          exact List.take_left' (by rw [List.length_append, List.length_take]; omega)
        rw [e1]
        exact List.take_left' (by simp only [List.length_append, List.length_take, hvl, hnl]; omega))
      (fun ok' => Kd.reps_append (Kd.reps_append (Kd.reps_take (hrep _ ok') (by omega)) (hvM _ ok')) (by rw [hnews]; exact Kd.reps_drop (hrep _ ok')))
    rw [hlen] at hR
    exact hR
  have hcpA : ∀ (W : World), (∀ x, W.cell? x = ((w.alloc (.cells ROW 71)).drew).cell? x) → (∀ x, W.frozen? x = ((w.alloc (.cells ROW 71)).drew).frozen? x) → ∀ ty dc, (Builtin.copy_ #[42, 42] ty #[.slice (some ⟨w.heap.size, i * 2, none⟩) (n + 1 - i) dc, .slice (some ⟨vb, 0, none⟩) 1 c2]).run Tryz.prog W = .ok (goInt (Nat.min 1 (n + 1 - i))) (W.setCells w.heap.size (i * 2) vs) := fun W hWc hWf ty dc =>
    run_copy_k W 42 42 ty 71 w.heap.size (i * 2) (n + 1 - i) dc ⟨vb, 0, none⟩ 1 c2 2 vs Tryz.underlying42 hsm (by rw [hvl]; simp only [Nat.min_def]; split <;> omega)
      (fun j v hj => by
        have := hvc j v hj
        rw [add_at, Nat.zero_add, hWc, World.cell?_of_block (w := w)]
        · exact this
        · show (w.heap.push _)[vb]? = w.heap[vb]?; have hne : vb ≠ w.heap.size := by omega
          simp [Array.getElem?_push, hne])
      (fun j hj => by rw [hWc]; exact row_some hg0 _ (by rw [hRs]; omega)) (fun j hj => by rw [hWf]; exact blk_frozen hg0 _) h1v
  have hgN : g ≠ w.heap.size := by omega
  have hcpB : ∀ (W : World), (∀ x, W.cell? x = (((w.alloc (.cells ROW 71)).drew).setCells w.heap.size (i * 2) vs).cell? x) → (∀ x, W.frozen? x = (((w.alloc (.cells ROW 71)).drew).setCells w.heap.size (i * 2) vs).frozen? x) → ∀ ty dc sc, (Builtin.copy_ #[42, 42] ty #[.slice (some ⟨w.heap.size, (i + 1) * 2, none⟩) (n - i) dc, .slice (some ⟨g, i * 2, none⟩) (n - i) sc]).run Tryz.prog W = .ok (goInt (Nat.min (n - i) (n - i))) (W.setCells w.heap.size ((i + 1) * 2) news) := fun W hWc hWf ty dc sc =>
    run_copy_k W 42 42 ty 71 w.heap.size ((i + 1) * 2) (n - i) dc ⟨g, i * 2, none⟩ (n - i) sc 2 news Tryz.underlying42 hsm (by rw [hnl]; simp only [Nat.min_def]; split <;> omega)
      (fun j v hj => by
        rw [add_at, hWc, World.cell?_of_block (w := w.drew)]
        · rw [row_cell hgd]; exact hsrc j v hj
        · rw [setCells_far vs _ g (fun e => hgN e)]; show (w.heap.push _)[g]? = w.heap[g]?; simp [Array.getElem?_push, hgN])
      (fun j hj => by rw [hWc]; exact row_some hg1 _ (by rw [hs1, hRs]; omega)) (fun j hj => by rw [hWf]; exact blk_frozen hg1 _) hone
  have HEND := Aside0.mk hend
  have HRZ := Aside0.mk hrz
  have HCA := Aside0.mk hcpA
  have HCB := Aside0.mk hcpB
  have hw1 : IntKind.i64.wrap ((i : Int) + 1) = (i : Int) + 1 := by rw [IntKind.wrap_i64]; omega
  have hw2 : IntKind.i64.wrap ((n : Int) + 1) = (n : Int) + 1 := by rw [IntKind.wrap_i64]; omega
  have hw3 : IntKind.i64.wrap ((n : Int) + 1 - (i : Int)) = (n : Int) + 1 - (i : Int) := by rw [IntKind.wrap_i64]; omega
  have hin2 : i ≤ n := by omega
  have htn : ((i : Int) + 1).toNat = i + 1 := by omega
  have hb1 : (0 : Int) ≤ (i : Int) + 1 := by omega
  have hb2 : ¬ (G = i + 1) := by omega
  have hb5 : (i : Int) ≤ (n : Int) + 1 := by omega
  have hb6 : (i : Int) + 1 ≤ (n : Int) + 1 := by omega
  have hb3 : ¬ (G = i) := by omega
  have hb7 : (i : Int) ≤ (cap : Int) := by omega
  have hb4 : ¬ (cap = i) := by omega
  have hz2' : ¬ ((i : Int) = (n : Int)) := by omega
  have hz3 : (cap : Int) < (n : Int) + 1 := by omega
  have mixed : Tryz.prog.follows .mixedOrders = true := by kernel_rfl
  clear hn hend hcpA hcpB hg2 hg1 hg0 hgd hs2 hs1 ht2 ht1 hsrc hsrc0 hone hone0 hnl hnews hrep hti hil hsz hg hvg hvc h1v hvM hB hvl hlen hl2 hold hrz hRs hROW hG hkk hik hnc
  go_enter Tryz.func31, Tryz.ntmps31
  go_wp2_with (at_builtin; refine Go.Lib.wpList_append_run _ rfl _ _ _ _ rfl _ _ rfl rfl _ _ (HRZ.out _) ?_)
  rw [HCA.out (w.alloc (.cells ROW 71)).drew (fun _ => rfl) (fun _ => rfl)]
  go_wp2
  go_region_law_o (refine step_copy_run_ rfl _ _ 42 42 rfl (.slice (some ⟨w.heap.size, (i + 1) * 2, none⟩) (n - i) (G - (i + 1))) (.slice (some ⟨g, i * 2, none⟩) (n - i) (cap - i)) (by simp [Act.eval, Act.put]) (by simp [Act.eval, Act.put]) (HCB.out (((w.alloc (.cells ROW 71)).drew).setCells w.heap.size (i * 2) vs).drew (fun _ => rfl) (fun _ => rfl) _ _ _) ?_)
  go_wp2
  go_ret
  exact ⟨_, rfl, HEND.out⟩
theorem slices_Insert_api_Item_api_Item.calls (P0_ : Nat → Prop) (u9000_ : Value) (l0 : List S71) (a1 : Int) (A2 : Option Addr) (c2 : Nat) (l2 : List S71) (r : List S71) (w0 w : World) (hB : Below w0.heap.size w0 w) (ho0 : Kd.R k71 71 w w0.heap.size P0_ u9000_ l0)
    (hr2 : ∀ W_, Kept w W_ (fun k_ => P0_ k_) → Kd.C k71 W_ A2 l2.length l2) (hc2 : l2.length ≤ c2) (hp2 : ∃ b_ ok_, Kd.R k71 71 w b_ ok_ (.slice A2 l2.length c2) l2) (h : slices_Insert_api_Item_api_Item.f l0 a1 l2 = some r) :
    Calls Tryz.prog 31 #[u9000_, .int .i64 a1, .slice A2 l2.length c2] w fun e w' => ∃ v0_ : Value, e = .returned (v0_) ∧ Kd.R k71 71 w' w0.heap.size (fun k_ => (P0_ k_ ∨ w.heap.size ≤ k_)) v0_ r ∧ Below w0.heap.size w0 w' ∧ Kept w w' (fun k_ => P0_ k_) := by
  unfold slices_Insert_api_Item_api_Item.f at h
  split at h
  case isFalse => cases h
  case isTrue hh =>
    obtain ⟨h1, h2, h3, h4⟩ := hh
    obtain rfl := Option.some.inj h
    obtain ⟨i, rfl⟩ : ∃ i : Nat, a1 = i := ⟨a1.toNat, (Int.toNat_of_nonneg h1).symm⟩
    rw [Int.toNat_natCast]
    obtain ⟨b2, ok2, hp⟩ := hp2
    obtain ⟨vb, capv, curv, vs, he, _, _, hvg, hnv, _, hvsz, hvl, hvt, hvM⟩ := R_row k71_E hp (by omega)
    obtain ⟨b, o, inner2, hA, _, hnP, _, _⟩ := C_apart hr2 (by omega) (by decide)
    injection he with he1 he2 he3
    subst he3
    rw [hA] at he1
    injection he1 with he1
    injection he1 with he1 he4 he5
    subst he1 he4
    subst hA
    rw [k71_sz] at hvsz hvl hvt hvM
    rw [h3] at hvl hvt ⊢
    have hvM' : ∀ w' ok, Reps (k71.M w' w0.heap.size ok) k71.sz l2 vs := fun w' ok => (hvM w' ok).imp_ (fun _ _ hm => k71_KM (k71.K_of_M hm))
    have h1v : ∀ x ∈ vs, x.oneCell' = true := flat_one (hvM' w P0_) (by decide)
    have hvc : ∀ (j : Nat) (x : Value), vs[j]? = some x → w.cell? ⟨b, j, none⟩ = some x := fun j x hx => by
      rw [row_cell hvg]
      rw [← hvt, List.getElem?_take] at hx
      split at hx
      · exact hx
      · cases hx
    by_cases hin : i = l0.length
    · subst hin
      rw [List.take_length, List.drop_length, List.append_nil]
      exact ins_end P0_ u9000_ l0 l2 b c2 vs w0 w hB ho0 hvl h3 hvc h1v hvM' h4
    · obtain ⟨g, cap, cur, inner, rfl, hbg, hok, hg, hnc, hcm, hsz, hil, hti, hrep⟩ := R_row k71_E ho0 (by omega)
      rw [k71_sz] at hsz hil hti
      have hvb : b ≠ g := fun e => hnP (e ▸ hok)
      rcases Nat.lt_or_ge cap (l0.length + 1) with hroom | hroom
      · exact ins_grow P0_ l0 l2 b c2 g cap i cur curv inner vs w0 w hB hbg hok hg hcm hsz hil hti hrep (by omega) hnc hroom h4 hvb hvg h3 hvl hvc h1v hvM'
      · exact ins_room P0_ l0 l2 b c2 g cap i cur curv inner vs w0 w hB hbg hok hg hcm hsz hil hti hrep (by omega) hroom hvb hvg h3 hvl hvc h1v hvM'
end Go.Proofs.YthbljhmjppjcjaaGreatDoor.Z
end

section
namespace Go.Proofs.YthbljhmjppjcjaaGreatDoor.Z
open Go.RowKit Go.Proofs.YthbljhmjppjcjaaGreatDoorW.PrintWords Go.Proofs.YthbljhmjppjcjaaGreatDoorW.PrintLast Go.Proofs.YthbljhmjppjcjaaGreatDoorW.PrintMore
attribute [local go_sem] max2_int min2_int max_two min_two max_three min_three max_four min_four   -- for this text's walks alone
set_option linter.unusedVariables false
set_option linter.unusedSimpArgs false
def strings_HasPrefix.f (a0 : ByteArray) (a1 : ByteArray) : Option (Bool) := (stringslite_HasPrefix.f a0 a1).bind fun t128 => (some t128)
set_option maxHeartbeats 8000000 in
set_option maxRecDepth 100000 in
theorem strings_HasPrefix.calls (a0 : ByteArray) (a1 : ByteArray) (r : Bool) (w : World) (h : strings_HasPrefix.f a0 a1 = some r) :
  Calls Tryz.prog 66 #[.string a0, .string a1] w fun e w' => e = .returned (.bool r) ∧ Drawn0 w w' := by
 have H : ((stringslite_HasPrefix.f a0 a1).bind fun t128 => (some t128)) = some r := h
 clear h
 replace H := Option.bind_eq_some_iff.mp H
 obtain ⟨t128, A30, H⟩ := H
 replace H : (some t128) = some r := H
 have A3 := Aside0.mk A30
 clear A30
 obtain rfl := Option.some.inj H
 go_enter Tryz.func66, Tryz.ntmps66
 go_wp2_with (first | ((with_reducible refine gate_callee (f := 92) rfl ?_); refine gl_ (some 7) Tryz.func92 #[.string a0, .string a1] ?_; (with_reducible refine (stringslite_HasPrefix.calls a0 a1 t128 _ A3.out).mono ?_); rintro e w' ⟨rfl, ⟨nd, rfl⟩⟩; refine ⟨_, rfl, ?_⟩))
 go_ret
 exact ⟨by first | rfl | (simp; done) | (simp [*]; done), by repeat (first | exact Drawn0.refl _ | apply Drawn0.step)⟩
def item_Under.l0 : Nat → List (S71) → ByteArray → Int → Int → Option ((List (S71)) × Int)
 | 0, _, _, _, _ => none
 | k + 1, x0, x1, x7, x9 => if x9 < (x0.length : Int) then (if 0 ≤ x9 then ((strings_HasPrefix.f ((rd_T71 x0 x9).f0) x1).bind fun t133 => (if t133 = true then (item_Under.l0 k x0 x1 x7 (wrap64 (x9 + 1))) else (if 0 ≤ x7 then (if x7 ≤ x9 then (if x9 ≤ (x0.length : Int) then ((slices_Clone_api_Item_api_Item.f ((x0.take (x9 : Int).toNat).drop (x7 : Int).toNat)).bind fun t138 => (some (t138, 0))) else (none)) else (none)) else (none)))) else (none)) else (if 0 ≤ x7 then (if x7 ≤ x9 then (if x9 ≤ (x0.length : Int) then ((slices_Clone_api_Item_api_Item.f ((x0.take (x9 : Int).toNat).drop (x7 : Int).toNat)).bind fun t145 => (some (t145, 0))) else (none)) else (none)) else (none))
def item_Under.f (k : Nat) (l0 : List (S71)) (a1 : ByteArray) : Option ((List (S71)) × Int) := (item_Check.f k l0).bind fun t129 => (if t129 = 0 then ((item_place.f k l0 a1).bind fun bt130 => (item_Under.l0 k l0 a1 bt130.1 bt130.1)) else (some (([] : List (S71)), t129)))
theorem item_Under.mono_l : ∀ k, (∀ y0 y1 y2 y3, LeO (item_Under.l0 k y0 y1 y2 y3) (item_Under.l0 (k + 1) y0 y1 y2 y3))
 | 0 => fun _ _ _ _ r h => by simp [item_Under.l0] at h
 | k + 1 => by
  have ih0 := item_Under.mono_l k
  ·intro y0 y1 y2 y3
   unfold item_Under.l0
   repeat' first
   | (with_reducible exact ih0 _ _ _ _)
   | (with_reducible exact item_Check.mono _ _)
   | (with_reducible exact item_place.mono _ _ _)
   | (with_reducible exact LeO.refl _)
   | (with_reducible exact LeO.none _)
   | (with_reducible refine LeO.ite ?_ ?_)
   | (with_reducible refine LeO.bind ?_ (fun _ => ?_))
   | exact ih0 _ _ _ _
   | exact item_Check.mono _ _
   | exact item_place.mono _ _ _
   | exact LeO.none _
   | refine LeO.ite ?_ ?_
   | refine LeO.bind ?_ (fun _ => ?_)
theorem item_Under.mono : ∀ a0 a1 k, LeO (item_Under.f k a0 a1) (item_Under.f (k + 1) a0 a1) := by
 intro a0 a1 k
 have ih0 := item_Under.mono_l k
 unfold item_Under.f
 repeat' first
   | (with_reducible exact ih0 _ _ _ _)
   | (with_reducible exact item_Check.mono _ _)
   | (with_reducible exact item_place.mono _ _ _)
   | (with_reducible exact LeO.refl _)
   | (with_reducible exact LeO.none _)
   | (with_reducible refine LeO.ite ?_ ?_)
   | (with_reducible refine LeO.bind ?_ (fun _ => ?_))
   | exact ih0 _ _ _ _
   | exact item_Check.mono _ _
   | exact item_place.mono _ _ _
   | exact LeO.none _
   | refine LeO.ite ?_ ?_
   | refine LeO.bind ?_ (fun _ => ?_)
set_option maxHeartbeats 8000000 in
set_option maxRecDepth 100000 in
theorem item_Under.calls (k : Nat) (A0 : Option Addr) (c0 : Nat) (l0 : List (S71)) (a1 : ByteArray) (r1 : List (S71)) (r2 : Int) (w : World) (hr0 : Kd.C k71 w A0 l0.length l0) (hc0 : l0.length ≤ c0) (h : item_Under.f k l0 a1 = some (r1, r2)) :
  Calls Tryz.prog 41 #[.slice A0 l0.length c0, .string a1] w fun e w' => ∃ v0_ : Value, e = .returned (.tuple #[v0_, .int .i64 r2]) ∧ Kd.R k71 71 w' w.heap.size (fun _ => True) v0_ r1 ∧ Below w.heap.size w w' := by
 have HR0 := Aside0.mk hr0
 have HC0 := Aside0.mk hc0
 clear hr0 hc0
 have HB := Aside0.mk (Below.refl w.heap.size w)
 have H : ((item_Check.f k l0).bind fun t129 => (if t129 = 0 then ((item_place.f k l0 a1).bind fun bt130 => (item_Under.l0 k l0 a1 bt130.1 bt130.1)) else (some (([] : List (S71)), t129)))) = some (r1, r2) := h
 clear h
 replace H := Option.bind_eq_some_iff.mp H
 obtain ⟨t129, A30, H⟩ := H
 replace H : (if t129 = 0 then ((item_place.f k l0 a1).bind fun bt130 => (item_Under.l0 k l0 a1 bt130.1 bt130.1)) else (some (([] : List (S71)), t129))) = some (r1, r2) := H
 have A3 := Aside0.mk A30
 clear A30
 by_cases c4 : t129 = 0
 ·rw [if_pos c4] at H
  have c4b0 : (t129 == 0) = true := beq_iff_eq.mpr c4
  have c4b1 : (t129 != 0) = false := bne_eq_false_iff_eq.mpr c4
  clear c4
  replace H := Option.bind_eq_some_iff.mp H
  obtain ⟨⟨t130, t131⟩, A50, H⟩ := H
  replace H : (item_Under.l0 k l0 a1 t130 t130) = some (r1, r2) := H
  have A5 := Aside0.mk A50
  clear A50
  have H' := Aside0.mk H
  clear H
  go_enter Tryz.func41, Tryz.ntmps41
  go_wp2_with (first | ((with_reducible refine gate_callee (f := 26) rfl ?_); refine gl_ (some 11) Tryz.func26 #[.slice A0 l0.length c0] ?_; (with_reducible refine (item_Check.calls k _ _ l0 t129 _ ?side1 ?side2 A3.out).mono ?_); (case side1 => repeat (first | exact HR0.out | (with_reducible refine Kd.C_alloc ?_ _) | (with_reducible refine Kd.C_drewN ?_ _) | (with_reducible refine Kd.C_drew ?_))); (case side2 => exact HC0.out); rintro e w6 ⟨rfl, hb⟩; refine ⟨_, rfl, ?_⟩; replace HB := hb_ hb; (try clear hb); (try clear hb2); (try clear hk); (try clear hi)) | ((with_reducible refine gate_callee (f := 29) rfl ?_); refine gl_ (some 18) Tryz.func29 #[.slice A0 l0.length c0, .string a1] ?_; (with_reducible refine (item_place.calls k _ _ l0 a1 t130 t131 _ ?side1 ?side2 A5.out).mono ?_); (case side1 => exact cb_ HR0); (case side2 => exact HC0.out); rintro e w7 ⟨rfl, hb⟩; refine ⟨_, rfl, ?_⟩; replace HB := hb_ hb; (try clear hb); (try clear hb2); (try clear hk); (try clear hi)))
  go_loopg [9] k (fun kq v9 w' => ∃ (x9_1 : Int), v9 = .int .i64 x9_1 ∧ Aside0 (item_Under.l0 kq l0 a1 t130 x9_1 = some (r1, r2)) ∧ Aside0 (kq ≤ k) ∧ Aside0 (Below w.heap.size w w'))
  case atStart => exact ⟨(t130), (by first | rfl | (simp; done) | (simp [*]; done)), H', ⟨Nat.le_refl _⟩, ⟨bel_⟩⟩
  case round =>
   clear H'
   try clear c2
   try clear p2
   try clear c4
   try clear c4b0
   try clear c4b1
   obtain ⟨x9_1, rfl, HA, HK1, HB⟩ := hrel
   cases gk with
   | zero => exact absurd HA.out (by simp [item_Under.l0])
   | succ k1 =>
    have H := HA.out
    clear HA
    simp only [item_Under.l0] at H
    by_cases c8 : x9_1 < (l0.length : Int)
    ·rw [if_pos c8] at H
     have c8b0 : decide (x9_1 < (l0.length : Int)) = true := decide_eq_true c8
     clear c8
     by_cases c9 : 0 ≤ x9_1
     ·rw [if_pos c9] at H
      have c9b0 : decide (0 ≤ x9_1) = true := decide_eq_true c9
      clear c9
      replace H := Option.bind_eq_some_iff.mp H
      obtain ⟨t133, A100, H⟩ := H
      replace H : (if t133 = true then (item_Under.l0 k1 l0 a1 t130 (wrap64 (x9_1 + 1))) else (if 0 ≤ t130 then (if t130 ≤ x9_1 then (if x9_1 ≤ (l0.length : Int) then ((slices_Clone_api_Item_api_Item.f ((l0.take (x9_1 : Int).toNat).drop (t130 : Int).toNat)).bind fun t138 => (some (t138, 0))) else (none)) else (none)) else (none))) = some (r1, r2) := H
      have A10 := Aside0.mk A100
      clear A100
      by_cases c11 : t133 = true
      ·subst c11
       have H1 : (item_Under.l0 k1 l0 a1 t130 (wrap64 (x9_1 + 1))) = some (r1, r2) := by rw [if_pos rfl] at H; exact H
       clear H
       have H := H1
       clear H1
       have H' := Aside0.mk H
       clear H
       have p132 : 0 ≤ (x9_1 : Int) := of_decide_eq_true (by first | (with_reducible assumption) | assumption)
       have q132 : x9_1 < (l0.length : Int) := of_decide_eq_true (by first | (with_reducible assumption) | assumption)
       obtain ⟨ad132, e132, hx132_0, hx132_1⟩ := at_T71 HR0.out x9_1 p132 q132
       cases e132
       replace hx132_0 := (HB.out.cell (World.block_lt_of_cell? w _ hx132_0)).trans hx132_0
       replace hx132_1 := (HB.out.cell (World.block_lt_of_cell? w _ hx132_1)).trans hx132_1
       replace p132 := eq_true p132
       replace q132 := eq_true q132
       go_wp2_with (first | (go_at_call 66; (with_reducible refine (strings_HasPrefix.calls ((rd_T71 l0 x9_1).f0) a1 true _ A10.out).mono ?_); rintro e w' ⟨rfl, ⟨nd, rfl⟩⟩))
       go_roundg k1
       case measure => have := HK1.out; omega
       case rel => exact ⟨(wrap64 (x9_1 + 1)), (by first | rfl | (simp; done) | (simp [*]; done)), H', ⟨by have := HK1.out; omega⟩, ⟨bel_⟩⟩
      replace c11 := Bool.eq_false_iff.mpr c11
      subst c11
      have H1 : (if 0 ≤ t130 then (if t130 ≤ x9_1 then (if x9_1 ≤ (l0.length : Int) then ((slices_Clone_api_Item_api_Item.f ((l0.take (x9_1 : Int).toNat).drop (t130 : Int).toNat)).bind fun t138 => (some (t138, 0))) else (none)) else (none)) else (none)) = some (r1, r2) := by rw [if_neg (show ¬ (false = true) by decide)] at H; exact H
      clear H
      have H := H1
      clear H1
      by_cases c12 : 0 ≤ t130
      ·rw [if_pos c12] at H
       have c12b0 := eq_true c12
       have c12b1 : decide (0 ≤ t130) = true := decide_eq_true c12
       clear c12
       by_cases c13 : t130 ≤ x9_1
       ·rw [if_pos c13] at H
        have c13b0 := eq_true c13
        have c13b1 : decide (t130 ≤ x9_1) = true := decide_eq_true c13
        clear c13
        by_cases c14 : x9_1 ≤ (l0.length : Int)
        ·rw [if_pos c14] at H
         have c14b0 := eq_true c14
         have c14b1 : decide (x9_1 ≤ (l0.length : Int)) = true := decide_eq_true c14
         clear c14
         obtain ⟨y134, hy134⟩ : ∃ y_ : List (S71), y_ = ((l0.take (x9_1 : Int).toNat).drop (t130 : Int).toNat) := ⟨_, rfl⟩
         replace H : ((slices_Clone_api_Item_api_Item.f y134).bind fun t138 => (some (t138, 0))) = some (r1, r2) := by first | (rw [hy134]; with_reducible exact H) | (have H2_ := (Option.bind_some _ _).symm.trans H; rw [hy134]; with_reducible exact H2_) | (have H2_ := (Option.bind_some _ _).symm.trans H; with_reducible exact H2_) | with_reducible exact H | (rw [hy134]; exact H) | exact H
         have Ny134 := Aside0.mk hy134
         clear hy134
         replace H := Option.bind_eq_some_iff.mp H
         obtain ⟨t138, A150, H⟩ := H
         replace H : (some (t138, 0)) = some (r1, r2) := H
         have A15 := Aside0.mk A150
         clear A150
         simp only [Option.some.injEq, Prod.mk.injEq] at H
         obtain ⟨rfl, rfl⟩ := H
         have p132 : 0 ≤ (x9_1 : Int) := of_decide_eq_true (by first | (with_reducible assumption) | assumption)
         have q132 : x9_1 < (l0.length : Int) := of_decide_eq_true (by first | (with_reducible assumption) | assumption)
         obtain ⟨ad132, e132, hx132_0, hx132_1⟩ := at_T71 HR0.out x9_1 p132 q132
         cases e132
         replace hx132_0 := (HB.out.cell (World.block_lt_of_cell? w _ hx132_0)).trans hx132_0
         replace hx132_1 := (HB.out.cell (World.block_lt_of_cell? w _ hx132_1)).trans hx132_1
         replace p132 := eq_true p132
         replace q132 := eq_true q132
         go_wp2_with (first | (go_at_call 66; (with_reducible refine (strings_HasPrefix.calls ((rd_T71 l0 x9_1).f0) a1 false _ A10.out).mono ?_); rintro e w' ⟨rfl, ⟨nd, rfl⟩⟩; have q16 : (x9_1 : Int) ≤ ((l0.length : Int) : Int) := of_decide_eq_true (by first | (with_reducible assumption) | assumption); obtain ⟨i016, hi016, _, hsz16, _⟩ := info_parts info71; have hroom16 : l0.length ≤ c0 := HC0.out; have hC16 : Kd.C k71 _ (some ad132) l0.length l0 := HR0.out; have ql16 : (t130 : Int) ≤ (x9_1 : Int) := of_decide_eq_true (by first | (with_reducible assumption) | assumption); have q016 : (0 : Int) ≤ (t130 : Int) := of_decide_eq_true (by first | (with_reducible assumption) | assumption); have hcut16 := cut_mid (P := Tryz.prog) 42 71 .i64 .i64 Tryz.underlying42 hi016 2 hsz16 (some ad132) l0.length c0 t130 x9_1 q016 ql16 q16 hroom16; have hr16 := Kd.C_mid (lo := (t130 : Int).toNat) (hi := (x9_1 : Int).toNat) (c := c0) hC16 (by omega) (by omega) hroom16; obtain ⟨A16, hA16⟩ : ∃ z_, z_ = (if c0 = (t130 : Int).toNat then (some ad132) else ((some ad132) : Option Addr).map (·.add ((t130 : Int).toNat * 2))) := ⟨_, rfl⟩; obtain ⟨c16, hc16⟩ : ∃ z_, z_ = c0 - (t130 : Int).toNat := ⟨_, rfl⟩; have hy16 : y134.length = (x9_1 : Int).toNat - (t130 : Int).toNat := (by rw [Ny134.out, List.length_drop, List.length_take] <;> omega); rw [show ((l0).take (x9_1 : Int).toNat).drop (t130 : Int).toNat = y134 from Ny134.out.symm] at hr16; replace hr16 : Kd.C k71 _ A16 y134.length y134 := (by rw [hA16]; exact hr16); rw [← hy16, ← hA16, ← hc16] at hcut16; have HR137 := Aside0.mk hr16; have HC137 := Aside0.mk (show y134.length ≤ c16 from by rw [hy16, hc16]; exact Nat.sub_le_sub_right (Nat.le_trans (by omega) hroom16) _); clear hr16 hC16 hroom16 hi016 hsz16 hc16; have KY16 := Aside0.mk hy16; have KA16 := Aside0.mk hA16; clear hy16 hA16; replace q16 := eq_true q16) | ((with_reducible refine gate_callee (f := 28) rfl ?_); refine gl_ (some 41) Tryz.func28 #[.slice A16 y134.length c16] ?_; (with_reducible refine (slices_Clone_api_Item_api_Item.calls _ _ y134 t138 _ ?side1 ?side2 A15.out).mono ?_); (case side1 => repeat (first | exact (Kd.C_below HR137.out bel_) | (with_reducible refine Kd.C_alloc ?_ _) | (with_reducible refine Kd.C_drewN ?_ _) | (with_reducible refine Kd.C_drew ?_))); (case side2 => exact HC137.out); rintro e w17 ⟨v139, rfl, ho0, hb⟩; refine ⟨_, rfl, ?_⟩; have HO140 := rl_ ho0; replace HB := hb_ hb; (try clear hb); (try clear hb2); (try clear hk); (try clear hi); (try clear ho0)))
         go_ret2
         exact ⟨_, by first | rfl | (simp [errW_none, errW_some] <;> rfl) | (simp [*, errW_none, errW_some] <;> rfl), by (with_reducible repeat (first | apply Kd.R_alloc | apply Kd.R_drewN | apply Kd.R_drew)); exact HO140.out, bel_⟩
        rw [if_neg c14] at H
        exact absurd H (by simp)
       rw [if_neg c13] at H
       exact absurd H (by simp)
      rw [if_neg c12] at H
      exact absurd H (by simp)
     rw [if_neg c9] at H
     exact absurd H (by simp)
    rw [if_neg c8] at H
    have c8b0 : decide (x9_1 < (l0.length : Int)) = false := decide_eq_false c8
    clear c8
    by_cases c18 : 0 ≤ t130
    ·rw [if_pos c18] at H
     have c18b0 := eq_true c18
     have c18b1 : decide (0 ≤ t130) = true := decide_eq_true c18
     clear c18
     by_cases c19 : t130 ≤ x9_1
     ·rw [if_pos c19] at H
      have c19b0 := eq_true c19
      have c19b1 : decide (t130 ≤ x9_1) = true := decide_eq_true c19
      clear c19
      by_cases c20 : x9_1 ≤ (l0.length : Int)
      ·rw [if_pos c20] at H
       have c20b0 := eq_true c20
       have c20b1 : decide (x9_1 ≤ (l0.length : Int)) = true := decide_eq_true c20
       clear c20
       obtain ⟨y141, hy141⟩ : ∃ y_ : List (S71), y_ = ((l0.take (x9_1 : Int).toNat).drop (t130 : Int).toNat) := ⟨_, rfl⟩
       replace H : ((slices_Clone_api_Item_api_Item.f y141).bind fun t145 => (some (t145, 0))) = some (r1, r2) := by first | (rw [hy141]; with_reducible exact H) | (have H2_ := (Option.bind_some _ _).symm.trans H; rw [hy141]; with_reducible exact H2_) | (have H2_ := (Option.bind_some _ _).symm.trans H; with_reducible exact H2_) | with_reducible exact H | (rw [hy141]; exact H) | exact H
       have Ny141 := Aside0.mk hy141
       clear hy141
       replace H := Option.bind_eq_some_iff.mp H
       obtain ⟨t145, A210, H⟩ := H
       replace H : (some (t145, 0)) = some (r1, r2) := H
       have A21 := Aside0.mk A210
       clear A210
       simp only [Option.some.injEq, Prod.mk.injEq] at H
       obtain ⟨rfl, rfl⟩ := H
       have q22 : (x9_1 : Int) ≤ ((l0.length : Int) : Int) := of_decide_eq_true (by first | (with_reducible assumption) | assumption)
       obtain ⟨i022, hi022, _, hsz22, _⟩ := info_parts info71
       have hroom22 : l0.length ≤ c0 := HC0.out
       have hC22 : Kd.C k71 _ A0 l0.length l0 := HR0.out
       have ql22 : (t130 : Int) ≤ (x9_1 : Int) := of_decide_eq_true (by first | (with_reducible assumption) | assumption)
       have q022 : (0 : Int) ≤ (t130 : Int) := of_decide_eq_true (by first | (with_reducible assumption) | assumption)
       have hcut22 := cut_mid (P := Tryz.prog) 42 71 .i64 .i64 Tryz.underlying42 hi022 2 hsz22 A0 l0.length c0 t130 x9_1 q022 ql22 q22 hroom22
       have hr22 := Kd.C_mid (lo := (t130 : Int).toNat) (hi := (x9_1 : Int).toNat) (c := c0) hC22 (by omega) (by omega) hroom22
       obtain ⟨A22, hA22⟩ : ∃ z_, z_ = (if c0 = (t130 : Int).toNat then A0 else (A0 : Option Addr).map (·.add ((t130 : Int).toNat * 2))) := ⟨_, rfl⟩
       obtain ⟨c22, hc22⟩ : ∃ z_, z_ = c0 - (t130 : Int).toNat := ⟨_, rfl⟩
       have hy22 : y141.length = (x9_1 : Int).toNat - (t130 : Int).toNat := (by rw [Ny141.out, List.length_drop, List.length_take] <;> omega)
       rw [show ((l0).take (x9_1 : Int).toNat).drop (t130 : Int).toNat = y141 from Ny141.out.symm] at hr22
       replace hr22 : Kd.C k71 _ A22 y141.length y141 := (by rw [hA22]; exact hr22)
       rw [← hy22, ← hA22, ← hc22] at hcut22
       have HR144 := Aside0.mk hr22
       have HC144 := Aside0.mk (show y141.length ≤ c22 from by rw [hy22, hc22]; exact Nat.sub_le_sub_right (Nat.le_trans (by omega) hroom22) _)
       clear hr22 hC22 hroom22 hi022 hsz22 hc22
       have KY22 := Aside0.mk hy22
       have KA22 := Aside0.mk hA22
       clear hy22 hA22
       replace q22 := eq_true q22
       go_wp2_with (first | ((with_reducible refine gate_callee (f := 28) rfl ?_); refine gl_ (some 41) Tryz.func28 #[.slice A22 y141.length c22] ?_; (with_reducible refine (slices_Clone_api_Item_api_Item.calls _ _ y141 t145 _ ?side1 ?side2 A21.out).mono ?_); (case side1 => exact cb_ HR144); (case side2 => exact HC144.out); rintro e w23 ⟨v146, rfl, ho0, hb⟩; refine ⟨_, rfl, ?_⟩; have HO147 := rl_ ho0; replace HB := hb_ hb; (try clear hb); (try clear hb2); (try clear hk); (try clear hi); (try clear ho0)))
       go_ret2
       exact ⟨_, by first | rfl | (simp [errW_none, errW_some] <;> rfl) | (simp [*, errW_none, errW_some] <;> rfl), by (with_reducible repeat (first | apply Kd.R_alloc | apply Kd.R_drewN | apply Kd.R_drew)); exact HO147.out, bel_⟩
      rw [if_neg c20] at H
      exact absurd H (by simp)
     rw [if_neg c19] at H
     exact absurd H (by simp)
    rw [if_neg c18] at H
    exact absurd H (by simp)
 rw [if_neg c4] at H
 have c4b0 : (t129 == 0) = false := beq_eq_false_iff_ne.mpr c4
 have c4b1 : (t129 != 0) = true := bne_iff_ne.mpr c4
 simp only [Option.some.injEq, Prod.mk.injEq] at H
 obtain ⟨rfl, rfl⟩ := H
 go_enter Tryz.func41, Tryz.ntmps41
 go_wp2_with (first | ((with_reducible refine gate_callee (f := 26) rfl ?_); refine gl_ (some 11) Tryz.func26 #[.slice A0 l0.length c0] ?_; (with_reducible refine (item_Check.calls k _ _ l0 t129 _ ?side1 ?side2 A3.out).mono ?_); (case side1 => repeat (first | exact HR0.out | (with_reducible refine Kd.C_alloc ?_ _) | (with_reducible refine Kd.C_drewN ?_ _) | (with_reducible refine Kd.C_drew ?_))); (case side2 => exact HC0.out); rintro e w24 ⟨rfl, hb⟩; refine ⟨_, rfl, ?_⟩; replace HB := hb_ hb; (try clear hb); (try clear hb2); (try clear hk); (try clear hi)))
 go_ret2
 exact ⟨_, by first | rfl | (simp [errW_none, errW_some] <;> rfl) | (simp [*, errW_none, errW_some] <;> rfl), by first | exact Kd.R_nil _ _ _ _ _ | exact Kd.N_nil _ _ _ _ _ | exact Kd.V_nil _ _ _ _ _ | exact Kd.Q_nil _ _ _ _ _ | exact Kd.S_nil _ _ _ _ _, bel_⟩
end Go.Proofs.YthbljhmjppjcjaaGreatDoor.Z
end

section
/- What the functions of package item, and the reference's, come to. -/
namespace Go.Proofs.YthbljhmjppjcjaaGreatDoor.Z
open Go.RowKit Go.Proofs.YthbljhmjppjcjaaGreatDoorW.PrintWords Go.Proofs.YthbljhmjppjcjaaGreatDoorW.PrintLast
set_option linter.unusedVariables false
theorem rd_get (l : List It) (i : Nat) (h : i < l.length) : rd_T71 l (i : Int) = l[i] := by
  unfold rd_T71
  rw [Int.toNat_natCast, List.getD_eq_getElem?_getD, List.getElem?_eq_getElem h]; rfl
theorem rdc_get (l : List Ch) (i : Nat) (h : i < l.length) : rd_T41 l (i : Int) = l[i] := by
  unfold rd_T41
  rw [Int.toNat_natCast, List.getD_eq_getElem?_getD, List.getElem?_eq_getElem h]; rfl
theorem iright_f (x : It) : item_right.f x.f0 x.f1 = some (okI x) := by
  unfold item_right.f okI okK
  by_cases h : x.f0.toList = []
  · simp [h]
  · rw [if_neg h]
    by_cases h2 : (x.f0.size : Int) ≤ 48
    · rw [if_pos h2]
      have h3 : x.f0.size ≤ 48 := by omega
      have : decide ((x.f1.size : Int) ≤ 160) = decide (x.f1.size ≤ 160) := decide_eq_decide.2 (by omega)
      simp [h, h3, this]
    · rw [if_neg h2]
      have h3 : ¬ x.f0.size ≤ 48 := by omega
      simp [h3]
theorem rightc_f (c : Ch) : item_right.f c.f0 c.f2 = some (okK c.f0 && decide (c.f2.size ≤ 160)) := iright_f ⟨c.f0, c.f2⟩
def prv (l : List It) : Nat → Option It
  | 0 => none
  | j + 1 => l[j]?
theorem prv_succ (l : List It) (i : Nat) (h : i < l.length) : prv l (i + 1) = some l[i] := List.getElem?_eq_getElem h
/-- What Check says at a place. -/
def ckS (b : Bool) : Int := if b then 0 else 4
theorem okF_at (l : List It) (i : Nat) (h : i < l.length) : okF (prv l i) (l.drop i) = (okI l[i] && (match prv l i with | none => true | some q => Op.bytesLess (key q) (key l[i])) && okF (prv l (i + 1)) (l.drop (i + 1))) := by
  rw [List.drop_eq_getElem_cons h, prv_succ l i h]
  cases prv l i <;> rfl
theorem itCheck_l0 (l : List It) (hl : l.length ≤ 4398046511104) : ∀ d i : Nat, l.length = i + d → Ev (fun k => item_Check.l0 k l l (l.length : Int) (i : Int)) (ckS (okF (prv l i) (l.drop i)))
  | 0, i, hi => by
    refine Ev.step (fun k => by rw [item_Check.l0]) ?_
    refine Ev.ifn (by omega) (Ev.const ?_)
    rw [List.drop_of_length_le (by omega)]
    unfold okF; rfl
  | d + 1, i, hi => by
    have hlt : i < l.length := by omega
    have ih := itCheck_l0 l hl d (i + 1) (by omega)
    rw [okF_at l i hlt]
    refine Ev.step (fun k => by rw [item_Check.l0]) ?_
    refine Ev.ifp (by omega) (Ev.ifp (by omega) (Ev.ifp (by omega) (Ev.bindc (by rw [rd_get l i hlt]; exact iright_f _) ?_)))
    cases hr : okI l[i] with
    | false => exact Ev.ifn (by simp) (Ev.const rfl)
    | true =>
      refine Ev.ifp rfl ?_
      rw [w64 (i := (i : Int) + 1) (by omega) (by omega)]
      cases i with
      | zero =>
        refine Ev.ifn (by omega) (Ev.val ih ?_)
        simp [prv]
      | succ j =>
        refine Ev.ifp (by omega) ?_
        have e : wrap64 (((j + 1 : Nat) : Int) - 1) = (j : Int) := by rw [w64 (by omega) (by omega)]; omega
        rw [e]
        refine Ev.ifp (by omega) (Ev.ifp (by omega) ?_)
        rw [rd_get l j (by omega), rd_get l (j + 1) hlt]
        rw [prv_succ l j (by omega)]
        cases hb : Op.bytesLess (l[j]).f0.toList (l[j + 1]).f0.toList with
        | false =>
          refine Ev.ifn (by simp) (Ev.const ?_)
          simp [ckS, key, hb]
        | true =>
          refine Ev.ifp rfl (Ev.val ih ?_)
          simp [key, hb]
theorem itCheck (l : List It) (hl : l.length ≤ 4398046511104) : Ev (fun k => item_Check.f k l) (ckS (okL l)) := itCheck_l0 l hl l.length 0 (by omega)
-- two texts compared
def cmpS (a b : List UInt8) : Int := if Op.bytesLess a b = true then -1 else if Op.bytesLess b a = true then 1 else 0
theorem compare_f (a b : ByteArray) : cmp_Compare_string.f a b = some (cmpS a.toList b.toList) := by
  unfold cmp_Compare_string.f cmp_isNaN_string.f cmpS
  simp only [bne_self_eq_false, Option.bind_some, Bool.false_eq_true, if_false]
  split
  · rfl
  · split <;> rfl
theorem cmpS_lt (a b : List UInt8) : cmpS a b < 0 ↔ Op.bytesLess a b = true := by
  unfold cmpS
  cases h : Op.bytesLess a b
  · simp only [Bool.false_eq_true, if_false, iff_false]; split <;> omega
  · simp
theorem cmpS_eq (a b : List UInt8) : (cmpS a b == 0) = (a == b) := by
  unfold cmpS
  rcases bl_total a b with rfl | h | h
  · simp [bl_irrefl]
  · have := bl_ne h
    simp [h, this]
  · have := (bl_ne h).symm
    simp [h, bl_asymm h, this]
theorem iu64w {i : Int} (h0 : 0 ≤ i) (h1 : i ≤ 9223372036854775807) : IntKind.u64.wrap i = i := by
  simp [IntKind.wrap, IntKind.bits, IntKind.signed]; omega
theorem lo_get {l : List It} (ha : Asc l) (k : List UInt8) (h : Nat) (hh : h < l.length) : Op.bytesLess (key l[h]) k = true ↔ h < (lo l k).length := by
  have e := lo_up l k
  constructor
  · intro hb
    rcases Nat.lt_or_ge h (lo l k).length with hc | hc
    · exact hc
    · have hm : l[h] ∈ up l k := by
        have : l[h] = (lo l k ++ up l k)[h]'(by rw [e]; exact hh) := by simp only [e]
        rw [this, List.getElem_append_right hc]
        exact List.getElem_mem _
      rw [up_ge ha _ hm] at hb; cases hb
  · intro hc
    have hm : l[h] ∈ lo l k := by
      have : l[h] = (lo l k ++ up l k)[h]'(by rw [e]; exact hh) := by simp only [e]
      rw [this, List.getElem_append_left hc]
      exact List.getElem_mem _
    exact lo_mem _ hm
theorem lo_le (l : List It) (k : List UInt8) : (lo l k).length ≤ l.length := by
  have := congrArg List.length (lo_up l k); rw [List.length_append] at this; omega
theorem up_drop (l : List It) (k : List UInt8) : up l k = l.drop (lo l k).length := by
  have := congrArg (List.drop (lo l k).length) (lo_up l k)
  rw [List.drop_left] at this
  exact this
theorem search_l0 {l : List It} (ha : Asc l) (hl : l.length ≤ 4398046511104) (a : ByteArray) : ∀ d i j : Nat, j - i ≤ d → i ≤ (lo l a.toList).length → (lo l a.toList).length ≤ j → j ≤ l.length →
    Ev (fun k => slices_BinarySearchFunc_api_Item_api_Item_string_fn53.l0 k l a (l.length : Int) (i : Int) (j : Int)) (((lo l a.toList).length : Int), fnd l a.toList) := by
  have endd : ∀ i : Nat, i = (lo l a.toList).length → ∀ j : Nat, ¬ ((i : Int) < (j : Int)) → Ev (fun k => slices_BinarySearchFunc_api_Item_api_Item_string_fn53.l0 k l a (l.length : Int) (i : Int) (j : Int)) (((lo l a.toList).length : Int), fnd l a.toList) := by
    intro i hi j hj
    refine Ev.step (fun k => by rw [slices_BinarySearchFunc_api_Item_api_Item_string_fn53.l0]) (Ev.ifn hj ?_)
    have hu := up_drop l a.toList
    rw [← hi] at hu
    rcases Nat.lt_or_ge i l.length with hlt | hge
    · refine Ev.ifp (by omega) (Ev.ifp (by omega) (Ev.ifp (by omega) ?_))
      refine Ev.bindc (show item_place_1.f _ _ _ = some _ by unfold item_place_1.f; rw [compare_f]; rfl) (Ev.const ?_)
      rw [rd_get l i hlt, cmpS_eq, ← hi]
      unfold fnd
      rw [hu, List.drop_eq_getElem_cons hlt]
    · refine Ev.ifn (by omega) (Ev.const ?_)
      rw [← hi]
      unfold fnd
      rw [hu, List.drop_of_length_le hge]
  intro d
  induction d with
  | zero =>
    intro i j hd h1 h2 h3
    exact endd i (by omega) j (by omega)
  | succ d ih =>
    intro i j hd h1 h2 h3
    by_cases hij : i < j
    · refine Ev.step (fun k => by rw [slices_BinarySearchFunc_api_Item_api_Item_string_fn53.l0]) (Ev.ifp (by omega) ?_)
      have hm : wrap64 ((IntKind.u64.wrap (wrap64 ((i : Int) + (j : Int)))) / 2) = (((i + j) / 2 : Nat) : Int) := by
        rw [w64 (i := (i : Int) + (j : Int)) (by omega) (by omega), iu64w (by omega) (by omega), w64 (by omega) (by omega)]; omega
      rw [hm]
      obtain ⟨h, hh⟩ : ∃ h, h = (i + j) / 2 := ⟨_, rfl⟩
      have hh1 : i ≤ h := by omega
      have hh2 : h < j := by omega
      rw [← hh]
      have hlt : h < l.length := by omega
      refine Ev.ifp (by omega) (Ev.ifp (by omega) ?_)
      refine Ev.bindc (show item_place_1.f _ _ _ = some _ by unfold item_place_1.f; rw [compare_f]; rfl) ?_
      rw [rd_get l h hlt]
      have hg := lo_get ha a.toList h hlt
      by_cases hb : Op.bytesLess (key l[h]) a.toList = true
      · refine Ev.ifp ((cmpS_lt _ _).2 hb) ?_
        have e : wrap64 ((h : Int) + 1) = ((h + 1 : Nat) : Int) := by rw [w64 (by omega) (by omega)]; omega
        rw [e]
        exact ih (h + 1) j (by omega) (by have := hg.1 hb; omega) h2 h3
      · refine Ev.ifn (fun hc => hb ((cmpS_lt _ _).1 hc)) ?_
        refine ih i h (by omega) h1 ?_ (by omega)
        rcases Nat.lt_or_ge h (lo l a.toList).length with hc | hc
        · exact absurd (hg.2 hc) hb
        · exact hc
    · exact endd i (by omega) j (by omega)
theorem place_f {l : List It} (ha : Asc l) (hl : l.length ≤ 4398046511104) (a : ByteArray) : Ev (fun k => item_place.f k l a) (((lo l a.toList).length : Int), fnd l a.toList) := by
  unfold item_place.f slices_BinarySearchFunc_api_Item_api_Item_string_fn53.f
  exact Ev.bind (search_l0 ha hl a l.length 0 l.length (by omega) (by omega) (lo_le _ _) (Nat.le_refl _)) (Ev.const rfl)
/-- Where a key is: what stands there. -/
theorem at_fnd {l : List It} (ha : Asc l) {k : List UInt8} (hf : fnd l k = true) : ∃ h : (lo l k).length < l.length, key (l[(lo l k).length]) = k ∧ l = lo l k ++ [l[(lo l k).length]] ++ hi l k := by
  obtain ⟨mid, hp, hu, hlo, hhi, hm⟩ := parts_of ha k
  rcases hm with ⟨_, h⟩ | ⟨x, rfl, hx, _⟩
  · rw [h] at hf; cases hf
  · have hlen := congrArg List.length hp
    simp only [List.length_append, List.length_singleton] at hlen
    have hlt : (lo l k).length < l.length := by omega
    have hg : l[(lo l k).length] = x := by
      have : l[(lo l k).length]? = some x := by
        have h2 := congrArg (fun z => z[(lo l k).length]?) hp
        simp only [List.append_assoc] at h2
        rw [List.getElem?_append_right (Nat.le_refl _), Nat.sub_self] at h2
        simpa using h2
      rw [List.getElem?_eq_getElem hlt] at this
      exact Option.some.inj this
    exact ⟨hlt, by rw [hg]; exact hx, by rw [hg]; exact hp⟩
theorem not_fnd {l : List It} (ha : Asc l) {k : List UInt8} (hf : fnd l k = false) : l = lo l k ++ hi l k := by
  obtain ⟨mid, hp, hu, hlo, hhi, hm⟩ := parts_of ha k
  rcases hm with ⟨rfl, _⟩ | ⟨x, rfl, hx, h⟩
  · simpa using hp
  · rw [h] at hf; cases hf
theorem hi_gt {l : List It} (ha : Asc l) {k : List UInt8} : ∀ x ∈ hi l k, Op.bytesLess k (key x) = true := by
  obtain ⟨mid, hp, hu, hlo, hhi, hm⟩ := parts_of ha k
  exact hhi
theorem look_fnd {l : List It} (ha : Asc l) {k : List UInt8} (hf : fnd l k = true) (h : (lo l k).length < l.length) : look l k = some (l[(lo l k).length]).f1 := by
  obtain ⟨h2, hk, hp⟩ := at_fnd ha hf
  have e := congrArg (fun z => look z k) hp
  simp only [look_app] at e
  rw [e, look_none (fun x hx => bl_ne (lo_mem x hx)), look_cons, if_pos hk]
  simp
theorem look_not {l : List It} (ha : Asc l) {k : List UInt8} (hf : fnd l k = false) : look l k = none := by
  have e := congrArg (fun z => look z k) (not_fnd ha hf)
  simp only [look_app] at e
  rw [e, look_none (fun x hx => bl_ne (lo_mem x hx)), look_none (fun x hx => (bl_ne (hi_gt ha x hx)).symm)]; rfl
def getS (l : List It) (k : List UInt8) : ByteArray × Int := if okL l = true then (match look l k with | some v => (v, 0) | none => (⟨#[]⟩, 5)) else (⟨#[]⟩, 4)
theorem itGet (l : List It) (hl : l.length ≤ 4398046511104) (a : ByteArray) : Ev (fun k => item_Get.f k l a) (getS l a.toList) := by
  unfold item_Get.f
  refine Ev.bind (itCheck l hl) ?_
  by_cases ho : okL l = true
  · have ha := ((okL_iff l).1 ho).2
    unfold getS
    rw [if_pos ho]
    refine Ev.ifp (by rw [ho]; rfl) (Ev.bind (place_f ha hl a) ?_)
    cases hf : fnd l a.toList with
    | true =>
      obtain ⟨h, hk, _⟩ := at_fnd ha hf
      refine Ev.ifp rfl (Ev.ifp (by simp only; omega) (Ev.ifp (by simp only; omega) (Ev.const ?_)))
      rw [look_fnd ha hf h, rd_get l _ h]
    | false =>
      refine Ev.ifn (by simp) (Ev.const ?_)
      rw [look_not ha hf]
  · have ho' : okL l = false := by simpa using ho
    unfold getS
    rw [ho']
    exact Ev.ifn (by decide) (Ev.const rfl)
theorem look_at {l : List It} (ha : Asc l) (j : Nat) (h : j < l.length) : look l (key l[j]) = some (l[j]).f1 := by
  have e : l = l.take j ++ l[j] :: l.drop (j + 1) := by rw [← List.drop_eq_getElem_cons h, List.take_append_drop]
  have ha2 : Asc (l.take j ++ l[j] :: l.drop (j + 1)) := e ▸ ha
  have e2 := congrArg (fun z => look z (key l[j])) e
  simp only [look_app] at e2
  rw [e2, look_none (fun x hx => bl_ne (ha2.parts.2.2 x hx _ (List.mem_cons_self ..))), look_cons, if_pos rfl]; rfl
end Go.Proofs.YthbljhmjppjcjaaGreatDoor.Z
end

section
/- dirs: what a volume comes to, in plain words (by hand). -/
namespace Go.Proofs.YthbljhmjppjcjaaGreatDoor.Z
open Go.RowKit Go.Proofs.YthbljhmjppjcjaaGreatDoorW.PrintWords Go.Proofs.YthbljhmjppjcjaaGreatDoorW.PrintLast Go.Proofs.YthbljhmjppjcjaaGreatDoorW.PrintMore Go.Proofs.YthbljhmjppjcjaaGreatDoor.PM
set_option linter.unusedVariables false
set_option linter.unusedSimpArgs false
/-- What an entry names. -/
def numS (v : ByteArray) : Int := if v.data.toList.length = 4 then (if (num v.data.toList : Int) ≤ 1 then 0 else num v.data.toList) else 0
theorem numS_f (v : ByteArray) : Ev (fun k => dirs_number.f k v) (numS v) := by
  unfold dirs_number.f
  refine Ev.bind (tnum_f v 4 (by decide) (by decide)) ?_
  unfold numS ba3 takeS
  by_cases h : v.data.toList.length < 4
  · refine Ev.ifn (by simp only [if_pos h]; decide) (Ev.const ?_)
    rw [if_neg (by omega)]
  · refine Ev.ifp (by simp only [if_neg h]) ?_
    by_cases h4 : v.data.toList.length = 4
    · have hd : v.data.toList.drop 4 = [] := List.drop_eq_nil_of_le (by omega)
      have ht : v.data.toList.take 4 = v.data.toList := List.take_of_length_le (by omega)
      have hn := num_lt 4 v.data.toList h4
      rw [p4] at hn
      refine Ev.ifp (by simp only [ba_toList]; exact hd) ?_
      simp only [if_neg h, ht, if_pos h4]
      refine Ev.ite (fun h1 => Ev.const (by rw [if_pos h1])) (fun h1 => Ev.const (by rw [if_neg h1]; congr 1; omega))
    · refine Ev.ifn (by simp only [ba_toList]; intro h0; have := congrArg List.length h0; rw [List.length_drop, List.length_nil] at this; omega) (Ev.const ?_)
      rw [if_neg h4]
theorem numS_range (v : ByteArray) : numS v = 0 ∨ (1 < numS v ∧ numS v < 4294967296) := by
  unfold numS
  by_cases h : v.data.toList.length = 4
  · have hn := num_lt 4 v.data.toList h
    rw [p4] at hn
    rw [if_pos h]
    by_cases h1 : (num v.data.toList : Int) ≤ 1
    · rw [if_pos h1]; exact .inl rfl
    · rw [if_neg h1]; exact .inr (by omega)
  · rw [if_neg h]; exact .inl rfl
/-- An item, its key taken apart; an inode's bytes, read. -/
def keptS (x : It) : KItm := ⟨(parsS x.f0.data.toList).1, (parsS x.f0.data.toList).2.1, ba (parsS x.f0.data.toList).2.2.1, (parsS x.f0.data.toList).2.2.2.1, x.f1⟩
def inoS (v : ByteArray) : INd := ⟨(decS v.data.toList).1, (decS v.data.toList).2.1, (decS v.data.toList).2.2.1, (decS v.data.toList).2.2.2.1, ba (decS v.data.toList).2.2.2.2.1⟩
def okP (x : It) : Bool := (parsS x.f0.data.toList).2.2.2.2 == 0 && (!((keptS x).f0 == 1) || (decS x.f1.data.toList).2.2.2.2.2 == 0)
def addS (s : VS) (x : It) : VS := if (keptS x).f0 = 1 then (s.add (keptS x)).put1 (keptS x).f1 (inoS x.f1)
  else if (keptS x).f0 = 2 then (s.add (keptS x)).put2 (numS x.f1) (wrap64 (((s.up (numS x.f1)).getD (0, 0)).1 + 1), (keptS x).f1) else s.add (keptS x)
def parseS : List It → VS → Option VS
  | [], s => some s
  | x :: r, s => if okP x = true then parseS r (addS s x) else none
def Fit (l : List It) : Prop := ∀ x ∈ l, x.f0.size ≤ maxLen ∧ x.f1.size ≤ maxLen
theorem okP_key {x : It} (h : okP x = true) : rightK (keptS x).f0 (keptS x).f1 (keptS x).f2.data.toList (keptS x).f3 = true ∧ keyL (keptS x).f0 (keptS x).f1 (keptS x).f2.data.toList (keptS x).f3 = x.f0.data.toList ∧ (0 ≤ (keptS x).f1 ∧ (keptS x).f1 < 4294967296) ∧ 0 ≤ (keptS x).f3 := by
  unfold okP at h
  rw [Bool.and_eq_true] at h
  have := key_pars (l := x.f0.data.toList) rfl (eq_of_beq h.1)
  unfold keptS
  rw [ba_data]
  exact this
theorem addS_len (s : VS) (x : It) : (addS s x).all = s.all ++ [keptS x] := by
  unfold addS
  split
  · rfl
  · split <;> rfl
theorem parseL_f : ∀ (l : List It) (s : VS), Fit l → s.all.length + l.length ≤ 4398046511103 → Ev (fun k => parseL k l s) (parseS l s)
  | [], s, _, _ => Ev.const rfl
  | x :: r, s, hf, hl => by
    have hx := hf x (List.mem_cons_self ..)
    have hm : maxLen ≤ 9223372036854775807 := by decide
    simp only [List.length_cons] at hl
    refine Ev.congr (fun k => by rw [parseL]) ?_
    refine Ev.bind (parse_f x.f0 (by omega)) ?_
    unfold baK
    show Ev (fun k => if (parsS x.f0.data.toList).2.2.2.2 = 0 then _ else _) _
    by_cases hp : (parsS x.f0.data.toList).2.2.2.2 = 0
    · refine Ev.ifp hp ?_
      have hr := key_pars (l := x.f0.data.toList) rfl hp
      refine Ev.ifp ⟨hr.2.2.1.1, hr.2.2.1.2, by omega⟩ ?_
      have hlen : (addS s x).all.length + r.length ≤ 4398046511103 := by rw [addS_len, List.length_append, List.length_singleton]; omega
      have ih := parseL_f r (addS s x) (fun y hy => hf y (List.mem_cons_of_mem _ hy)) hlen
      rw [parseS]
      by_cases h1 : (parsS x.f0.data.toList).1 = 1
      · refine Ev.ifp h1 ?_
        refine Ev.bind (decode_f x.f1 (by omega)) ?_
        unfold baI
        by_cases hd : (decS x.f1.data.toList).2.2.2.2.2 = 0
        · refine Ev.ifp hd ?_
          rw [if_pos (by unfold okP; rw [hp, hd]; simp)]
          rw [show addS s x = (s.add (keptS x)).put1 (keptS x).f1 (inoS x.f1) from if_pos h1] at ih ⊢
          exact ih
        · refine Ev.ifn hd (Ev.const ?_)
          rw [if_neg (by unfold okP keptS; simp [hd, h1])]
      · refine Ev.ifn h1 ?_
        rw [if_pos (by unfold okP keptS; simp [hp, h1])]
        by_cases h2 : (parsS x.f0.data.toList).1 = 2
        · refine Ev.ifp h2 ?_
          refine Ev.bind (numS_f x.f1) ?_
          rw [show addS s x = (s.add (keptS x)).put2 (numS x.f1) (wrap64 (((s.up (numS x.f1)).getD (0, 0)).1 + 1), (keptS x).f1) from (if_neg h1).trans (if_pos h2)] at ih ⊢
          exact ih
        · refine Ev.ifn h2 ?_
          rw [show addS s x = s.add (keptS x) from (if_neg h1).trans (if_neg h2)] at ih ⊢
          exact ih
    · refine Ev.ifn hp (Ev.const ?_)
      rw [parseS, if_neg (by unfold okP; simp [hp])]
/-- What is known of a volume whose keys are taken apart. -/
structure Inv (p : List It) (s : VS) : Prop where
  all : s.all = p.map keptS
  ok : ∀ x ∈ p, okP x = true
  src : ∀ a n, s.ino a = some n → ∃ x ∈ p, (keptS x).f0 = 1 ∧ (keptS x).f1 = a ∧ n = inoS x.f1
  has : ∀ x ∈ p, (keptS x).f0 = 1 → (s.ino (keptS x).f1).isSome = true
theorem Inv.add {p : List It} {s : VS} (h : Inv p s) {x : It} (hx : okP x = true) : Inv (p ++ [x]) (addS s x) := by
  refine ⟨by rw [addS_len, h.all, List.map_append]; rfl, fun y hy => ?_, fun a n hn => ?_, fun y hy h1 => ?_⟩
  · rcases List.mem_append.1 hy with hy | hy
    · exact h.ok y hy
    · rw [List.mem_singleton.1 hy]; exact hx
  · by_cases h1 : (keptS x).f0 = 1
    · rw [show addS s x = (s.add (keptS x)).put1 (keptS x).f1 (inoS x.f1) from if_pos h1] at hn
      have hn : (if a = (keptS x).f1 then some (inoS x.f1) else s.ino a) = some n := hn
      by_cases ha : a = (keptS x).f1
      · rw [if_pos ha] at hn
        exact ⟨x, by simp, h1, ha.symm, (Option.some.inj hn).symm⟩
      · rw [if_neg ha] at hn
        obtain ⟨y, hy, e⟩ := h.src a n hn
        exact ⟨y, by simp [hy], e⟩
    · have : s.ino a = some n := by
        rw [← hn]
        unfold addS
        rw [if_neg h1]
        split <;> rfl
      obtain ⟨y, hy, e⟩ := h.src a n this
      exact ⟨y, by simp [hy], e⟩
  · by_cases hk : (keptS x).f0 = 1
    · rw [show addS s x = (s.add (keptS x)).put1 (keptS x).f1 (inoS x.f1) from if_pos hk]
      show (if (keptS y).f1 = (keptS x).f1 then some (inoS x.f1) else s.ino (keptS y).f1).isSome = true
      split
      · rfl
      · rename_i hne
        rcases List.mem_append.1 hy with hy | hy
        · exact h.has y hy h1
        · rw [List.mem_singleton.1 hy] at hne; exact absurd rfl hne
    · have e : ∀ a, (addS s x).ino a = s.ino a := fun a => by
        unfold addS
        rw [if_neg hk]
        split <;> rfl
      rw [e]
      rcases List.mem_append.1 hy with hy | hy
      · exact h.has y hy h1
      · rw [List.mem_singleton.1 hy] at h1; exact absurd h1 hk
theorem parseS_inv : ∀ (l p : List It) (s s' : VS), Inv p s → parseS l s = some s' → Inv (p ++ l) s'
  | [], p, s, s', h, e => by rw [List.append_nil]; rw [← Option.some.inj e]; exact h
  | x :: r, p, s, s', h, e => by
    rw [parseS] at e
    by_cases hx : okP x = true
    · rw [if_pos hx] at e
      have := parseS_inv r (p ++ [x]) (addS s x) s' (h.add hx) e
      rwa [List.append_assoc, List.singleton_append] at this
    · rw [if_neg hx] at e; exact absurd e (by simp)
theorem inv0 : Inv [] VS0 := ⟨rfl, fun x h => (by cases h), fun a n h => (by cases h), fun x h => (by cases h)⟩
/-- Does an item go with its inode? -/
def fitsS (s : VS) (x : KItm) : Bool :=
  if x.f0 = 2 then (s.ino x.f1).isSome && (s.ino (numS x.f4)).isSome && ((s.ino x.f1).getD zI).kd == 1
  else if x.f0 = 3 then (s.ino x.f1).isSome && ((s.ino x.f1).getD zI).kd == 2 && decide (0 ≤ (x.f4.size : Int) - 1) && decide ((x.f4.size : Int) - 1 < 128) && bt x.f4 ((x.f4.size : Int) - 1) != 0 && decide (x.f3 * 128 + ((x.f4.size : Int) - 1) < ((s.ino x.f1).getD zI).sz)
  else if x.f0 = 4 then (s.ino x.f1).isSome && decide ((x.f4.size : Int) ≤ 64) else (s.ino x.f1).isSome
theorem inoS_sz (v : ByteArray) : 0 ≤ (inoS v).sz ∧ (inoS v).sz < 4294967296 := by
  unfold inoS
  show 0 ≤ (decS v.data.toList).2.2.2.1 ∧ (decS v.data.toList).2.2.2.1 < 4294967296
  unfold decS
  split
  · rename_i h; exact (f_range _ h.1).2.2.2
  · exact ⟨by decide, by decide⟩
theorem Inv.sz {p : List It} {s : VS} (h : Inv p s) (a : Int) : 0 ≤ ((s.ino a).getD zI).sz ∧ ((s.ino a).getD zI).sz < 4294967296 := by
  cases hn : s.ino a with
  | none => exact ⟨by decide, by decide⟩
  | some n =>
    obtain ⟨x, _, _, _, e⟩ := h.src a n hn
    rw [e]
    exact inoS_sz x.f1
theorem fits_f {p : List It} {s : VS} (h : Inv p s) {x : It} (hx : okP x = true) (hv : x.f1.size ≤ 65536) : Ev (fun k => fitsF k s (keptS x)) (fitsS s (keptS x)) := by
  unfold fitsF fitsS
  refine Ev.ite (fun h2 => ?_) (fun h2 => ?_)
  · rw [if_pos h2]
    exact Ev.bind (numS_f _) (Ev.const rfl)
  · rw [if_neg h2]
    refine Ev.ite (fun h3 => ?_) (fun h3 => ?_)
    · rw [if_pos h3]
      have hk := okP_key hx
      have hs := h.sz (keptS x).f1
      have hr := hk.1
      rw [h3] at hr
      unfold rightK at hr
      have hr := (of_decide_eq_true hr).2
      exact Ev.ifp ⟨hk.2.2.2, by omega, hs.1, hs.2, hv⟩ (Ev.const rfl)
    · rw [if_neg h3]
      refine Ev.ite (fun h4 => Ev.const (by rw [if_pos h4])) (fun h4 => Ev.const (by rw [if_neg h4]))
theorem misfit_f {p : List It} {s : VS} (h : Inv p s) : ∀ l : List It, (∀ x ∈ l, okP x = true ∧ x.f1.size ≤ 65536) → Ev (fun k => misfitL k s (l.map keptS)) (!(l.map keptS).all (fitsS s))
  | [], _ => Ev.const rfl
  | x :: r, hx => by
    have h1 := hx x (List.mem_cons_self ..)
    refine Ev.congr (fun k => by rw [List.map_cons, misfitL]) ?_
    refine Ev.bind (fits_f h h1.1 h1.2) ?_
    rw [List.map_cons, List.all_cons]
    refine Ev.ite (fun hb => ?_) (fun hb => ?_)
    · rw [hb, Bool.true_and]
      exact misfit_f h r (fun y hy => hx y (List.mem_cons_of_mem _ hy))
    · rw [(Bool.not_eq_true _).mp hb]; exact Ev.const rfl
/-- A volume, looked through: none if it is not right. -/
def lookS (l : List It) : Option VS := match parseS l VS0 with
  | none => none
  | some s => if okL l = true ∧ ((s.ino 1).getD zI).kd = 1 ∧ s.all.all (fitsS s) = true ∧ lookAll s s.all = true then some s else none
theorem look_f (l : List It) (hf : Fit l) (hl : l.length ≤ 4398046511103) : Ev (fun k => lookF k l) (lookS l) := by
  unfold lookF parseF lookS
  have hp := parseL_f l VS0 hf (by show 0 + l.length ≤ _; omega)
  cases hs : parseS l VS0 with
  | none =>
    rw [hs] at hp
    exact Ev.bind (Ev.bind hp (Ev.const rfl)) (Ev.const rfl)
  | some s =>
    rw [hs] at hp
    have hi := parseS_inv l [] VS0 s inv0 hs
    rw [List.nil_append] at hi
    have hpf : Ev (fun k => (parseL k l VS0).bind fun o => match o with | none => some none | some s => (item_Check.f k l).bind fun c => if c = 0 ∧ ((s.ino 1).getD zI).kd = 1 then some (some s) else some none) (if okL l = true ∧ ((s.ino 1).getD zI).kd = 1 then some s else none) := by
      refine Ev.bind hp ?_
      refine Ev.bind (itCheck l (by omega)) ?_
      by_cases hk : okL l = true
      · rw [hk]
        refine Ev.ite (fun h => Ev.const (by rw [if_pos ⟨rfl, h.2⟩])) (fun h => Ev.const ?_)
        rw [if_neg (fun h' => h ⟨rfl, h'.2⟩)]
      · rw [(Bool.not_eq_true _).mp hk]
        exact Ev.ifn (fun h => absurd h.1 (by decide)) (Ev.const (by rw [if_neg (fun h' => absurd h'.1 (by decide))]))
    refine Ev.bind hpf ?_
    by_cases hk : okL l = true ∧ ((s.ino 1).getD zI).kd = 1
    · rw [if_pos hk]
      have hm := misfit_f hi l (fun x hx => ⟨hi.ok x hx, by
        have := ((okL_iff l).1 hk.1).1 x hx
        unfold okI at this
        simp only [Bool.and_eq_true, decide_eq_true_eq] at this
        omega⟩)
      rw [← hi.all] at hm
      refine Ev.bind hm ?_
      by_cases ha : s.all.all (fitsS s) = true
      · rw [ha]
        refine Ev.ifn (by decide) (Ev.const ?_)
        by_cases hq : lookAll s s.all = true
        · rw [if_pos hq]; simp only []; rw [if_pos ⟨hk.1, hk.2, ha, hq⟩]
        · rw [if_neg hq]; simp only []; rw [if_neg (fun h => hq h.2.2.2)]
      · rw [(Bool.not_eq_true _).mp ha]
        refine Ev.ifp rfl (Ev.const ?_)
        simp only []
        rw [if_neg (fun h => ha h.2.2.1)]
    · rw [if_neg hk]
      simp only []
      rw [if_neg (fun h => hk ⟨h.1, h.2.1⟩)]
      exact Ev.const rfl
/-- What is known of a right volume. -/
structure Rt (l : List It) (s : VS) : Prop where
  inv : Inv l s
  ok : okL l = true
  root : ((s.ino 1).getD zI).kd = 1
  fits : ∀ x ∈ l, fitsS s (keptS x) = true
theorem look_rt {l : List It} {s : VS} (h : lookS l = some s) : Rt l s := by
  unfold lookS at h
  cases hs : parseS l VS0 with
  | none => rw [hs] at h; exact absurd h (by simp)
  | some s' =>
    rw [hs] at h
    simp only [] at h
    by_cases hc : okL l = true ∧ ((s'.ino 1).getD zI).kd = 1 ∧ s'.all.all (fitsS s') = true ∧ lookAll s' s'.all = true
    · rw [if_pos hc] at h
      obtain rfl := Option.some.inj h
      have hi := parseS_inv l [] VS0 s' inv0 hs
      rw [List.nil_append] at hi
      refine ⟨hi, hc.1, hc.2.1, fun x hx => ?_⟩
      have := hc.2.2.1
      rw [hi.all, List.all_map, List.all_eq_true] at this
      exact this x hx
    · rw [if_neg hc] at h; exact absurd h (by simp)
/-- What a directory has by a name. -/
def entryS (l : List It) (i : Int) (nm : ByteArray) : Int := if rightK 2 i nm.data.toList 0 = true then numS ((look l (keyL 2 i nm.data.toList 0)).getD ⟨#[]⟩) else 0
theorem entry_f {l : List It} (hk : okL l = true) (hl : l.length ≤ 4398046511104) {i : Int} (hi : 0 ≤ i ∧ i < 4294967296) (nm : ByteArray) : Ev (fun k => entryF k l i nm) (entryS l i nm) := by
  unfold entryF
  refine Ev.bind (key_f 2 i nm 0 (by decide) hi (by decide)) ?_
  unfold keyS entryS
  by_cases hr : rightK 2 i nm.data.toList 0 = true
  · rw [if_pos hr, if_pos hr]
    refine Ev.ifp rfl ?_
    refine Ev.bind (itGet l hl _) ?_
    unfold getS
    rw [if_pos hk, ba_toList]
    cases look l (keyL 2 i nm.data.toList 0) with
    | none => exact numS_f _
    | some v => exact numS_f _
  · rw [if_neg hr, if_neg hr]
    exact Ev.ifn (by decide) (Ev.const rfl)
theorem entryS_range (l : List It) (i : Int) (nm : ByteArray) : 0 ≤ entryS l i nm ∧ entryS l i nm < 4294967296 := by
  unfold entryS
  split
  · have := numS_range ((look l (keyL 2 i nm.data.toList 0)).getD ⟨#[]⟩)
    omega
  · exact ⟨by decide, by decide⟩
theorem mem_of_look {l : List It} {k : List UInt8} {v : ByteArray} (h : look l k = some v) : ∃ x ∈ l, key x = k ∧ x.f1 = v := by
  unfold look at h
  obtain ⟨x, hx, rfl⟩ := Option.map_eq_some_iff.1 h
  have he := List.find?_some (p := fun x => key x == k) hx
  exact ⟨x, List.mem_of_find?_eq_some hx, eq_of_beq he, rfl⟩
theorem look_mem {l : List It} (ha : Asc l) {x : It} (h : x ∈ l) : look l (key x) = some x.f1 := by
  obtain ⟨j, hj, rfl⟩ := List.mem_iff_getElem.1 h
  exact look_at ha j hj
theorem Rt.kept {l : List It} {s : VS} (h : Rt l s) {x : It} (hx : x ∈ l) (h2 : (keptS x).f0 = 2) : entryS l (keptS x).f1 (keptS x).f2 = numS x.f1 ∧ (s.ino (keptS x).f1).isSome = true ∧ (s.ino (numS x.f1)).isSome = true ∧ ((s.ino (keptS x).f1).getD zI).kd = 1 := by
  have hk := okP_key (h.inv.ok x hx)
  have hr := hk.1
  rw [h2] at hr
  have h3 : (keptS x).f3 = 0 := by
    unfold rightK at hr
    have := (of_decide_eq_true hr).2
    omega
  rw [h3] at hr
  have hkey : key x = keyL 2 (keptS x).f1 (keptS x).f2.data.toList 0 := by
    show x.f0.toList = _
    rw [ByteArray.toList_eq, ← hk.2.1, h2, h3]
  have hf := h.fits x hx
  unfold fitsS at hf
  rw [if_pos h2] at hf
  simp only [Bool.and_eq_true] at hf
  refine ⟨?_, hf.1.1, hf.1.2, eq_of_beq hf.2⟩
  unfold entryS
  rw [if_pos hr, ← hkey, look_mem ((okL_iff l).1 h.ok).2 hx]
  rfl
theorem Rt.pos {l : List It} {s : VS} (h : Rt l s) {a : Int} (hs : (s.ino a).isSome = true) : 0 < a ∧ a < 4294967296 := by
  obtain ⟨n, hn⟩ := Option.isSome_iff_exists.1 hs
  obtain ⟨x, hx, h1, rfl, _⟩ := h.inv.src a n hn
  have hk := okP_key (h.inv.ok x hx)
  have hr := hk.1
  unfold rightK at hr
  exact ⟨(of_decide_eq_true hr).1, hk.2.2.1.2⟩
abbrev VS.kd (s : VS) (a : Int) : Int := ((s.ino a).getD zI).kd
/-- A link's names, why there are none. -/
def tgS (s : VS) (t : Int) : List ByteArray × Int := baP (pathSpec ((s.ino t).getD zI).tg.data.toList)
/-- What comes of a link. -/
def linkS (rec : Option (List ByteArray → Int × Int)) (p : List ByteArray × Int) (r : List ByteArray) : Int × Int := match rec with
  | none => (0, 15)
  | some R => if p.2 = 0 then R (p.1 ++ r) else (0, p.2)
/-- Going along names; rec: what to do at a link. -/
def goS (l : List It) (s : VS) (follow : Bool) (rec : Option (List ByteArray → Int × Int)) : List ByteArray → Int → Int × Int
  | [], a => (a, 0)
  | x :: r, a => if s.kd a = 1 then (if entryS l a x = 0 then (0, 5) else if s.kd (entryS l a x) = 3 ∧ ¬ (r = [] ∧ follow = false) then
      linkS rec (tgS s (entryS l a x)) r
      else goS l s follow rec r (entryS l a x)) else (0, 12)
def walkS (l : List It) (s : VS) (follow : Bool) : Nat → List ByteArray → Int → Int × Int
  | 0, ns, a => goS l s follow none ns a
  | b + 1, ns, a => goS l s follow (some fun m => walkS l s follow b m 1) ns a
theorem tgS_len (s : VS) (t : Int) : (tgS s t).1.length ≤ 300 := by
  unfold tgS baP
  rw [List.length_map]
  rcases path_cases ((s.ino t).getD zI).tg.data.toList with h | ⟨_, h⟩ | ⟨rest, h0, _, h1, h2, h3⟩
  · rw [h.2]; decide
  · rw [h]; decide
  · rw [h3]
    have hj := congrArg List.length (joinL_splitL rest)
    rw [joinL_length, List.length_cons] at hj
    rw [h0, List.length_cons] at h1
    show (splitL rest).length ≤ 300
    omega
theorem walk_f {l : List It} {s : VS} (h : Rt l s) (hl : l.length ≤ 4398046511104) (follow : Bool) : ∀ (b : Nat) (ns : List ByteArray) (a : Int), (0 ≤ a ∧ a < 4294967296) → ns.length + 300 * b ≤ 10995116277760 → b ≤ 8 →
    Ev (fun k => walkL l s follow k ns a (8 - (b : Int))) (walkS l s follow b ns a) := by
  have go : ∀ (b : Nat) (rec : Option (List ByteArray → Int × Int)), b ≤ 8 → (rec = none → b = 0) → (∀ R, rec = some R → ∃ c, b = c + 1 ∧ ∀ m, m.length + 300 * c ≤ 10995116277760 → Ev (fun k => walkL l s follow k m 1 (8 - (c : Int))) (R m)) →
      ∀ (ns : List ByteArray) (a : Int), (0 ≤ a ∧ a < 4294967296) → ns.length + 300 * b ≤ 10995116277760 → Ev (fun k => walkL l s follow k ns a (8 - (b : Int))) (goS l s follow rec ns a) := by
    intro b rec hb h0 hR ns
    induction ns with
    | nil => intro a ha hn; exact Ev.step (f := fun _ => some (a, 0)) (fun k => by rw [walkL]) (Ev.now _)
    | cons x r ih =>
      intro a ha hn
      rw [List.length_cons] at hn
      refine Ev.step (fun k => by rw [walkL]) ?_
      rw [goS]
      by_cases hd : s.kd a = 1
      · rw [if_pos hd]
        refine Ev.ifp hd ?_
        refine Ev.bind (entry_f h.ok hl ha x) ?_
        by_cases ht : entryS l a x = 0
        · rw [if_pos ht]; exact Ev.ifp ht (Ev.const rfl)
        · rw [if_neg ht]
          refine Ev.ifn ht ?_
          by_cases hk : s.kd (entryS l a x) = 3 ∧ ¬ (r = [] ∧ follow = false)
          · rw [if_pos hk]
            refine Ev.ifp hk ?_
            cases rec with
            | none =>
              have := h0 rfl
              exact Ev.ifp (by omega) (Ev.const rfl)
            | some R =>
              obtain ⟨c, rfl, hc⟩ := hR R rfl
              refine Ev.ifn (by omega) ?_
              refine Ev.bind (split_f _) ?_
              have e : baP (pathSpec ((s.ino (entryS l a x)).getD zI).tg.data.toList) = tgS s (entryS l a x) := rfl
              rw [e]
              have hlen := tgS_len s (entryS l a x)
              unfold linkS
              by_cases hz : (tgS s (entryS l a x)).2 = 0
              · simp only [if_pos hz]
                refine Ev.ifp (by omega) ?_
                rw [show (8 : Int) - ((c + 1 : Nat) : Int) + 1 = 8 - (c : Int) by omega]
                exact hc _ (by rw [List.length_append]; omega)
              · simp only [if_neg hz]
                exact Ev.const rfl
          · rw [if_neg hk]
            refine Ev.ifn hk ?_
            exact ih _ (entryS_range l a x) (by omega)
      · rw [if_neg hd]; exact Ev.ifn hd (Ev.const rfl)
  intro b
  induction b with
  | zero => intro ns a ha hn hb; exact go 0 none hb (fun _ => rfl) (fun R e => by cases e) ns a ha hn
  | succ c ih => intro ns a ha hn hb; exact go (c + 1) _ hb (fun e => by cases e) (fun R e => ⟨c, rfl, fun m hm => by cases e; exact ih m 1 ⟨by decide, by decide⟩ hm (by omega)⟩) ns a ha hn
/-! ### The package's functions -/
theorem Check_f {l : List It} (hf : Fit l) (hl : l.length ≤ 4398046511103) : Ev (fun k => dirs_Check.f k l) (match lookS l with | none => 9 | some _ => 0) := by
  unfold dirs_Check.f
  refine Ev.bind (look_f l hf hl) ?_
  cases lookS l <;> exact Ev.const rfl
def walkR (l : List It) (ns : List ByteArray) (follow : Bool) : Int × Int := match lookS l with | none => (0, 9) | some s => walkS l s follow 8 ns 1
theorem Walk_f {l : List It} (hf : Fit l) (hl : l.length ≤ 4398046511103) (ns : List ByteArray) (hn : ns.length ≤ 8796093022208) (follow : Bool) : Ev (fun k => dirs_Walk.f k l ns follow) (walkR l ns follow) := by
  unfold dirs_Walk.f walkR
  refine Ev.bind (look_f l hf hl) ?_
  cases h : lookS l with
  | none => exact Ev.const rfl
  | some s => exact walk_f (look_rt h) (by omega) follow 8 ns 1 ⟨by decide, by decide⟩ (by omega) (by decide)
end Go.Proofs.YthbljhmjppjcjaaGreatDoor.Z
end

section
/- The document's answer for dirs, in plain words: inodes, names, one item, entries (by hand). -/
namespace Go.Proofs.YthbljhmjppjcjaaGreatDoor.Z
open Go.RowKit Go.Proofs.YthbljhmjppjcjaaGreatDoorW.PrintWords Go.Proofs.YthbljhmjppjcjaaGreatDoorW.PrintLast Go.Proofs.YthbljhmjppjcjaaGreatDoorW.PrintMore Go.Proofs.YthbljhmjppjcjaaGreatDoor.PM
set_option linter.unusedVariables false
set_option linter.unusedSimpArgs false
def decO (v : ByteArray) : Option INd := if (decS v.data.toList).2.2.2.2.2 = 0 then some (inoS v) else none
/-- An inode of a list. -/
def inR (l : List It) (a : Int) : Option INd := if rightK 1 a [] 0 = true then (look l (keyL 1 a [] 0)).bind decO else none
/-- A list as a volume. -/
def sR (l : List It) : VS := ⟨l.map keptS, inR l, fun _ => none, 0⟩
def pe (x : It) : Int := (parsS x.f0.data.toList).2.2.2.2
def oneB (l : List It) (x : It) : Bool := pe x == 0 && fitsS (sR l) (keptS x)
theorem pe_key {x : It} (h : pe x = 0) : rightK (keptS x).f0 (keptS x).f1 (keptS x).f2.data.toList (keptS x).f3 = true ∧ keyL (keptS x).f0 (keptS x).f1 (keptS x).f2.data.toList (keptS x).f3 = x.f0.data.toList ∧ (0 ≤ (keptS x).f1 ∧ (keptS x).f1 < 4294967296) ∧ 0 ≤ (keptS x).f3 := by
  have := key_pars (l := x.f0.data.toList) rfl h
  unfold keptS
  rw [ba_data]
  exact this
/-! ### up -/
def upT (a : Int) (p : Int × Int) (x : It) : Int × Int := if (keptS x).f0 = 2 ∧ numS x.f1 = a then (wrap64 (p.1 + 1), (keptS x).f1) else p
def upS (l : List It) (a : Int) : Int × Int := l.foldl (upT a) (0, 0)
/-! ### Entry -/
end Go.Proofs.YthbljhmjppjcjaaGreatDoor.Z
end

section
namespace Go.Proofs.YthbljhmjppjcjaaGreatDoor.Z
open Go.RowKit Go.Proofs.YthbljhmjppjcjaaGreatDoorW.PrintWords Go.Proofs.YthbljhmjppjcjaaGreatDoorW.PrintLast Go.Proofs.YthbljhmjppjcjaaGreatDoorW.PrintMore
attribute [local go_sem] max2_int min2_int max_two min_two max_three min_three max_four min_four   -- for this text's walks alone
set_option linter.unusedVariables false
set_option linter.unusedSimpArgs false
def dirs_New.f (k : Nat)  : Option ((List (S71))) := (inode_Key.f k 1 1 (⟨#[]⟩ : ByteArray) 0).bind fun bt252 => ((inode_Encode.f k 1 0 1 0 (⟨#[]⟩ : ByteArray)).bind fun bt254 => (some (([(⟨bt252.1, bt254.1⟩ : S71)] : List (S71)))))
theorem dirs_New.mono : ∀ k, LeO (dirs_New.f k ) (dirs_New.f (k + 1) ) := by
 intro  k
 unfold dirs_New.f
 repeat' first
   | (with_reducible exact inode_Encode.mono _ _ _ _ _ _)
   | (with_reducible exact inode_Key.mono _ _ _ _ _)
   | (with_reducible exact LeO.refl _)
   | (with_reducible exact LeO.none _)
   | (with_reducible refine LeO.ite ?_ ?_)
   | (with_reducible refine LeO.bind ?_ (fun _ => ?_))
   | exact inode_Encode.mono _ _ _ _ _ _
   | exact inode_Key.mono _ _ _ _ _
   | exact LeO.none _
   | refine LeO.ite ?_ ?_
   | refine LeO.bind ?_ (fun _ => ?_)
set_option maxHeartbeats 8000000 in
set_option maxRecDepth 100000 in
theorem dirs_New.calls (k : Nat)  (r : List (S71)) (w : World) (h : dirs_New.f k  = some r) :
  Calls Tryz.prog 10 #[] w fun e w' => ∃ v0_ : Value, e = .returned (v0_) ∧ Kd.R k71 71 w' w.heap.size (fun _ => True) v0_ r ∧ Below w.heap.size w w' := by
 have hu37 := Tryz.underlying37
 have hu33 := Tryz.underlying33
 have hu71 := Tryz.underlying71
 have HB := Aside0.mk (Below.refl w.heap.size w)
 have H : ((inode_Key.f k 1 1 (⟨#[]⟩ : ByteArray) 0).bind fun bt252 => ((inode_Encode.f k 1 0 1 0 (⟨#[]⟩ : ByteArray)).bind fun bt254 => (some (([(⟨bt252.1, bt254.1⟩ : S71)] : List (S71)))))) = some r := h
 clear h
 replace H := Option.bind_eq_some_iff.mp H
 obtain ⟨⟨t252, t253⟩, A10, H⟩ := H
 replace H : ((inode_Encode.f k 1 0 1 0 (⟨#[]⟩ : ByteArray)).bind fun bt254 => (some (([(⟨t252, bt254.1⟩ : S71)] : List (S71))))) = some r := H
 have A1 := Aside0.mk A10
 clear A10
 replace H := Option.bind_eq_some_iff.mp H
 obtain ⟨⟨t254, t255⟩, A20, H⟩ := H
 replace H : (some (([(⟨t252, t254⟩ : S71)] : List (S71)))) = some r := H
 have A2 := Aside0.mk A20
 clear A20
 obtain ⟨y256, hy256⟩ : ∃ y_ : List (S71), y_ = (([(⟨t252, t254⟩ : S71)] : List (S71))) := ⟨_, rfl⟩
 replace H : (some y256) = some r := by first | (rw [hy256]; with_reducible exact H) | (have H2_ := (Option.bind_some _ _).symm.trans H; rw [hy256]; with_reducible exact H2_) | (have H2_ := (Option.bind_some _ _).symm.trans H; with_reducible exact H2_) | with_reducible exact H | (rw [hy256]; exact H) | exact H
 have Ny256 := Aside0.mk hy256
 clear hy256
 obtain rfl := Option.some.inj H
 go_enter Tryz.func10, Tryz.ntmps10
 go_wp2_with (first | ((with_reducible refine gate_callee (f := 7) rfl ?_); refine gl_ (some 7) Tryz.func7 #[.agg #[.int .u8 1, .int .u32 1, .string (⟨#[]⟩ : ByteArray), .int .u32 0]] ?_; (with_reducible refine (inode_Key.calls k 1 1 (⟨#[]⟩ : ByteArray) 0 t252 t253 _ A1.out).mono ?_); rintro e w3 ⟨rfl, hb⟩; refine ⟨_, rfl, ?_⟩; replace HB := hb_ hb; (try clear hb); (try clear hb2); (try clear hk); (try clear hi)) | ((with_reducible refine gate_callee (f := 6) rfl ?_); refine gl_ (some 12) Tryz.func6 #[.agg #[.int .u8 1, .int .u16 0, .int .u32 1, .int .u32 0, .string (⟨#[]⟩ : ByteArray)]] ?_; (with_reducible refine (inode_Encode.calls k 1 0 1 0 (⟨#[]⟩ : ByteArray) t254 t255 _ A2.out).mono ?_); rintro e w4 ⟨rfl, hb⟩; refine ⟨_, rfl, ?_⟩; replace HB := hb_ hb; (try clear hb); (try clear hb2); (try clear hk); (try clear hi)) | ((with_reducible refine gate_dst (N := 18) rfl ?_); refine Kd.R_lit k71 _ 71 ?hg (N := 18) ?hd (xs := ([(⟨t252, t254⟩ : S71)] : List (S71))) (inner := [.string t252, .string t254]) (ok := fun _ => True) (okp := fun _ => True) ?hr ?hp (fun _ hk => hk) trivial (Below.refl _ _) (Nat.le_refl _) (by simp) ?_; (case hd => rfl); (case hg => rfl); (case hr => first | (go_simp; done) | (go_simp; rfl)); (case hp => exact (Reps.c2 (show Kd.M k71 _ _ _ (⟨t252, t254⟩ : S71) [.string t252, .string t254] from (k71_mkM _ _ _ (⟨t252, t254⟩ : S71) )) (Reps.none _ _))); intro v257 w5 ho6 hb hg_ hnew_; clear hg_ hnew_; (first | rw [← Ny256.out] at ho6 | (simp only [Int.reduceToNat] at ho6; rw [← Ny256.out] at ho6)); have HO258 := rl_ ho6; replace HB := hb_ hb; clear hb ho6))
 go_ret
 exact ⟨_, by first | rfl | (simp [errW_none, errW_some] <;> rfl) | (simp [*, errW_none, errW_some] <;> rfl), by (with_reducible repeat (first | apply Kd.R_alloc | apply Kd.R_drewN | apply Kd.R_drew)); exact HO258.out, bel_⟩
end Go.Proofs.YthbljhmjppjcjaaGreatDoor.Z
end

section
/- dirs: what is true of going along names in a right volume; 'lives' is true (by hand). -/
namespace Go.Proofs.YthbljhmjppjcjaaGreatDoor.Z
open Go.RowKit Go.Proofs.YthbljhmjppjcjaaGreatDoorW.PrintWords Go.Proofs.YthbljhmjppjcjaaGreatDoorW.PrintLast Go.Proofs.YthbljhmjppjcjaaGreatDoorW.PrintMore Go.Proofs.YthbljhmjppjcjaaGreatDoor.PM
set_option linter.unusedVariables false
set_option linter.unusedSimpArgs false
/-! ### What a directory has -/
/-! ### lives -/
def newI : It := ⟨ba (keyL 1 1 [] 0), ba (enc 1 0 1 0 [])⟩
theorem New_f : Ev (fun k => dirs_New.f k) [newI] := by
  unfold dirs_New.f
  refine Ev.bind (key_f 1 1 ⟨#[]⟩ 0 (by decide) ⟨by decide, by decide⟩ (by decide)) ?_
  refine Ev.bind (encode_f 1 0 1 0 ⟨#[]⟩ ⟨by decide, by decide⟩ ⟨by decide, by decide⟩ ⟨by decide, by decide⟩ ⟨by decide, by decide⟩) ?_
  exact Ev.const rfl
theorem new_ok : okL [newI] = true := by
  rw [okL_iff]
  refine ⟨fun x hx => ?_, by unfold Asc; simp⟩
  rw [List.mem_singleton.1 hx]
  unfold okI okK
  rw [ByteArray.toList_eq]
  decide
theorem wf32 {n : Int} (h : (Lit.int .u32 n).wf = true) : 0 ≤ n ∧ n < 4294967296 := by
  have := (Lit.wf_int_iff .u32 n).1 h
  simp only [IntKind.min, IntKind.max, IntKind.signed, IntKind.bits] at this
  simp at this
  omega
end Go.Proofs.YthbljhmjppjcjaaGreatDoor.Z
end

section
/- The document's answer for dirs: a list is right for it just when it is for the program; then its inodes are the program's (by hand). -/
namespace Go.Proofs.YthbljhmjppjcjaaGreatDoor.Z
open Go.RowKit Go.Proofs.YthbljhmjppjcjaaGreatDoorW.PrintWords Go.Proofs.YthbljhmjppjcjaaGreatDoorW.PrintLast Go.Proofs.YthbljhmjppjcjaaGreatDoorW.PrintMore Go.Proofs.YthbljhmjppjcjaaGreatDoor.PM
set_option linter.unusedVariables false
set_option linter.unusedSimpArgs false
/-! ### Going up -/
def nxt (up : Int → Option (Int × Int)) (i : Int) : Int := ((up i).getD (0, 0)).2
/-- From i one comes to the root in just so many steps. -/
def Rc (up : Int → Option (Int × Int)) : Nat → Int → Prop
  | 0, i => i = 1
  | t + 1, i => i ≠ 1 ∧ Rc up t (nxt up i)
theorem rc_one (up : Int → Option (Int × Int)) : ∀ (t u : Nat) (i : Int), Rc up t i → Rc up u i → t = u
  | 0, 0, _, _, _ => rfl
  | 0, u + 1, i, h, h2 => absurd h h2.1
  | t + 1, 0, i, h, h2 => absurd h2 h.1
  | t + 1, u + 1, i, h, h2 => congrArg (· + 1) (rc_one up t u _ h.2 h2.2)
theorem rooted_iff (up : Int → Option (Int × Int)) : ∀ (m : Nat) (i : Int), rootedL up m i = true ↔ ∃ t, t ≤ m ∧ Rc up t i
  | 0, i => by
    rw [rootedL, beq_iff_eq]
    exact ⟨fun h => ⟨0, Nat.le_refl _, h⟩, fun ⟨t, ht, h⟩ => by rw [Nat.le_zero.1 ht] at h; exact h⟩
  | m + 1, i => by
    rw [rootedL]
    by_cases h1 : i = 1
    · rw [if_pos h1]
      exact ⟨fun _ => ⟨0, Nat.zero_le _, h1⟩, fun _ => rfl⟩
    · rw [if_neg h1]
      refine (rooted_iff up m _).trans ⟨fun ⟨t, ht, h⟩ => ⟨t + 1, Nat.succ_le_succ ht, h1, h⟩, fun ⟨t, ht, h⟩ => ?_⟩
      cases t with
      | zero => exact absurd h h1
      | succ t => exact ⟨t, Nat.le_of_succ_le_succ ht, h.2⟩
def nodes (up : Int → Option (Int × Int)) : Nat → Int → List Int
  | 0, _ => []
  | t + 1, i => i :: nodes up t (nxt up i)
theorem nodes_len (up : Int → Option (Int × Int)) : ∀ (t : Nat) (i : Int), (nodes up t i).length = t
  | 0, _ => rfl
  | t + 1, i => congrArg (· + 1) (nodes_len up t _)
theorem nodes_rc (up : Int → Option (Int × Int)) : ∀ (t : Nat) (i j : Int), Rc up t i → j ∈ nodes up t i → ∃ u, u < t ∧ Rc up (u + 1) j
  | 0, _, _, _, h => by cases h
  | t + 1, i, j, hr, h => by
    rcases List.mem_cons.1 h with rfl | h
    · exact ⟨t, Nat.lt_succ_self t, hr⟩
    · obtain ⟨u, hu, hj⟩ := nodes_rc up t _ j hr.2 h
      exact ⟨u, Nat.lt_succ_of_lt hu, hj⟩
theorem nodes_nodup (up : Int → Option (Int × Int)) : ∀ (t : Nat) (i : Int), Rc up t i → (nodes up t i).Nodup
  | 0, _, _ => List.nodup_nil
  | t + 1, i, h => by
    refine List.nodup_cons.2 ⟨fun hm => ?_, nodes_nodup up t _ h.2⟩
    obtain ⟨u, hu, hj⟩ := nodes_rc up t _ i h.2 hm
    have := rc_one up _ _ _ h hj
    omega
theorem nodup_le : ∀ (L M : List Int), L.Nodup → (∀ x ∈ L, x ∈ M) → L.length ≤ M.length
  | [], M, _, _ => Nat.zero_le _
  | x :: r, M, hn, hs => by
    have hc := List.nodup_cons.1 hn
    have hx := hs x (List.mem_cons_self ..)
    have := nodup_le r (M.erase x) hc.2 (fun y hy => (List.mem_erase_of_ne (fun e : y = x => hc.1 (by rw [← e]; exact hy))).2 (hs y (List.mem_cons_of_mem _ hy)))
    rw [List.length_erase_of_mem hx] at this
    have hp := List.length_pos_of_mem hx
    rw [List.length_cons]
    omega
theorem rooted_small (up : Int → Option (Int × Int)) (M : List Int) (n : Nat) (hM : ∀ t j, Rc up (t + 1) j → j ∈ M) (hn : M.length ≤ n) (m : Nat) (hm : n ≤ m) (i : Int) : rootedL up m i = rootedL up n i := by
  rw [Bool.eq_iff_iff, rooted_iff, rooted_iff]
  refine ⟨fun ⟨t, ht, h⟩ => ⟨t, ?_, h⟩, fun ⟨t, ht, h⟩ => ⟨t, by omega, h⟩⟩
  have := nodup_le _ M (nodes_nodup up t i h) (fun x hx => by
    obtain ⟨u, _, hu⟩ := nodes_rc up t i x h hx
    exact hM u x hu)
  rw [nodes_len] at this
  omega
theorem rooted_ext (up up' : Int → Option (Int × Int)) (h : ∀ i, (up i).getD (0, 0) = (up' i).getD (0, 0)) : ∀ (m : Nat) (i : Int), rootedL up m i = rootedL up' m i
  | 0, i => rfl
  | m + 1, i => by
    rw [rootedL, rootedL, h, rooted_ext up up' h m]
/-! ### What the program finds is what the list has -/
theorem parseS_some : ∀ (l : List It) (s : VS), (∀ x ∈ l, okP x = true) → ∃ s', parseS l s = some s'
  | [], s, _ => ⟨s, rfl⟩
  | x :: r, s, h => by
    rw [parseS, if_pos (h x (List.mem_cons_self ..))]
    exact parseS_some r _ (fun y hy => h y (List.mem_cons_of_mem _ hy))
theorem addS_up (s : VS) (x : It) (a : Int) : ((addS s x).up a).getD (0, 0) = upT a ((s.up a).getD (0, 0)) x := by
  unfold addS upT
  by_cases h1 : (keptS x).f0 = 1
  · rw [if_pos h1, if_neg (fun h => by omega)]; rfl
  · rw [if_neg h1]
    by_cases h2 : (keptS x).f0 = 2
    · rw [if_pos h2]
      show ((if a = numS x.f1 then some (wrap64 (((s.up (numS x.f1)).getD (0, 0)).1 + 1), (keptS x).f1) else s.up a)).getD (0, 0) = _
      by_cases ha : a = numS x.f1
      · subst ha
        rw [if_pos rfl, if_pos ⟨h2, rfl⟩]; rfl
      · rw [if_neg ha, if_neg (fun h => ha h.2.symm)]
    · rw [if_neg h2, if_neg (fun h => h2 h.1)]; rfl
theorem parseS_up : ∀ (l : List It) (s s' : VS), parseS l s = some s' → ∀ a, (s'.up a).getD (0, 0) = l.foldl (upT a) ((s.up a).getD (0, 0))
  | [], s, s', h, a => by rw [← Option.some.inj h]; rfl
  | x :: r, s, s', h, a => by
    rw [parseS] at h
    by_cases hx : okP x = true
    · rw [if_pos hx] at h
      rw [parseS_up r _ _ h a, addS_up]; rfl
    · rw [if_neg hx] at h; cases h
theorem key1 {x : It} (hp : pe x = 0) (h1 : (keptS x).f0 = 1) : key x = keyL 1 (keptS x).f1 [] 0 ∧ rightK 1 (keptS x).f1 [] 0 = true := by
  obtain ⟨hr, hk, hi, h3⟩ := pe_key hp
  rw [h1] at hr hk
  have h0 := hr
  unfold rightK at h0
  have h0 := (of_decide_eq_true h0).2
  have hn : (keptS x).f2.data.toList = [] ∧ (keptS x).f3 = 0 := by
    rcases h0 with h0 | h0 | h0
    · exact h0.2
    · exact absurd h0.1 (by decide)
    · exact absurd h0.1 (by decide)
  rw [hn.1, hn.2] at hr hk
  exact ⟨by show x.f0.toList = _; rw [ByteArray.toList_eq, ← hk], hr⟩
theorem okP_pe {x : It} (h : okP x = true) : pe x = 0 := by
  unfold okP at h
  rw [Bool.and_eq_true] at h
  exact eq_of_beq h.1
theorem inR_item {l : List It} (ha : Asc l) {x : It} (hx : x ∈ l) (hp : pe x = 0) (h1 : (keptS x).f0 = 1) : inR l (keptS x).f1 = decO x.f1 := by
  obtain ⟨hk, hr⟩ := key1 hp h1
  unfold inR
  rw [if_pos hr, ← hk, look_mem ha hx]; rfl
theorem ino_eq {l : List It} {s : VS} (hi : Inv l s) (hok : okL l = true) {a : Int} (ha : 0 ≤ a ∧ a < 4294967296) : s.ino a = inR l a := by
  have hasc := ((okL_iff l).1 hok).2
  have fwd : ∀ n, s.ino a = some n → inR l a = some n := fun n hn => by
    obtain ⟨x, hx, h1, rfl, e⟩ := hi.src a n hn
    have hp := hi.ok x hx
    rw [inR_item hasc hx (okP_pe hp) h1]
    unfold okP at hp
    rw [Bool.and_eq_true, h1] at hp
    have hd : (decS x.f1.data.toList).2.2.2.2.2 = 0 := by
      have := hp.2
      simp at this
      exact this
    unfold decO
    rw [if_pos hd, e]
  cases hs : s.ino a with
  | some n => exact (fwd n hs).symm
  | none =>
    cases hn : inR l a with
    | none => rfl
    | some n =>
      unfold inR at hn
      by_cases hr : rightK 1 a [] 0 = true
      · rw [if_pos hr] at hn
        cases hv : look l (keyL 1 a [] 0) with
        | none => rw [hv] at hn; cases hn
        | some v =>
          obtain ⟨x, hx, hk, rfl⟩ := mem_of_look hv
          have hk' : x.f0.data.toList = keyL 1 a [] 0 := by rw [← ByteArray.toList_eq]; exact hk
          have hp := pars_key hr ha (by decide : (0 : Int) ≤ 0)
          rw [← hk'] at hp
          have h1 : (keptS x).f0 = 1 := by show (parsS x.f0.data.toList).1 = 1; rw [hp]
          have h2 : (keptS x).f1 = a := by show (parsS x.f0.data.toList).2.1 = a; rw [hp]
          have := hi.has x hx h1
          rw [h2, hs] at this
          cases this
      · rw [if_neg hr] at hn; cases hn
def upF (l : List It) : Int → Option (Int × Int) := fun a => some (upS l a)
/-- An inode's item, its entries counted. -/
def lkR (l : List It) (n : Nat) (x : It) : Bool :=
  if (keptS x).f0 = 1 ∧ ¬ (keptS x).f1 = 1 then
    (if IntKind.u64.wrap (upS l (keptS x).f1).1 = IntKind.u64.wrap ((inR l (keptS x).f1).getD zI).ln then
      (if ((inR l (keptS x).f1).getD zI).kd = 1 then rootedL (upF l) n (keptS x).f1 else true) else false) else true
theorem lookAll_eq {l : List It} {s : VS} (hi : Inv l s) (hok : okL l = true) (hu : ∀ a, (s.up a).getD (0, 0) = upS l a) : ∀ r : List It, (∀ x ∈ r, x ∈ l) → lookAll s (r.map keptS) = r.all (lkR l l.length)
  | [], _ => rfl
  | x :: r, h => by
    have ih := lookAll_eq hi hok hu r (fun y hy => h y (List.mem_cons_of_mem _ hy))
    have hx := h x (List.mem_cons_self ..)
    have hr := (okP_key (hi.ok x hx)).2.2.1
    have hlen : s.all.length = l.length := by rw [hi.all, List.length_map]
    rw [List.map_cons, lookAll, List.all_cons, ih, hu, ino_eq hi hok hr, hlen, rooted_ext s.up (upF l) (fun i => hu i)]
    unfold lkR
    by_cases c1 : (keptS x).f0 = 1 ∧ ¬ (keptS x).f1 = 1
    · rw [if_pos c1, if_pos c1]
      by_cases c2 : IntKind.u64.wrap (upS l (keptS x).f1).1 = IntKind.u64.wrap ((inR l (keptS x).f1).getD zI).ln
      · rw [if_pos c2, if_pos c2]
        by_cases c3 : ((inR l (keptS x).f1).getD zI).kd = 1
        · rw [if_pos c3, if_pos c3]
          cases rootedL (upF l) l.length (keptS x).f1 <;> simp
        · rw [if_neg c3, if_neg c3, Bool.true_and]
      · rw [if_neg c2, if_neg c2, Bool.false_and]
    · rw [if_neg c1, if_neg c1, Bool.true_and]
/-- What the document asks. -/
def goodR (l : List It) : Bool := okL l && (((inR l 1).getD zI).kd == 1 && (l.all (oneB l) && l.all (lkR l (l.length + 1))))
theorem up_none (l : List It) (a : Int) (h : ∀ x ∈ l, ¬ ((keptS x).f0 = 2 ∧ numS x.f1 = a)) : ∀ p, l.foldl (upT a) p = p := by
  induction l with
  | nil => intro p; rfl
  | cons x r ih =>
    intro p
    rw [List.foldl_cons, show upT a p x = p from if_neg (h x (List.mem_cons_self ..))]
    exact ih (fun y hy => h y (List.mem_cons_of_mem _ hy)) p
theorem fits_num {l : List It} {x : It} (h : oneB l x = true) (h2 : (keptS x).f0 = 2) : numS x.f1 ≠ 0 := by
  unfold oneB at h
  rw [Bool.and_eq_true] at h
  have hf := h.2
  unfold fitsS at hf
  rw [if_pos h2] at hf
  simp only [Bool.and_eq_true] at hf
  intro h0
  have := hf.1.2
  rw [show (keptS x).f4 = x.f1 from rfl, h0] at this
  have this : (inR l 0).isSome = true := this
  rw [show inR l 0 = none from if_neg (by decide)] at this
  cases this
theorem rooted_eq {l : List It} (h1 : ∀ x ∈ l, oneB l x = true) (i : Int) : rootedL (upF l) (l.length + 1) i = rootedL (upF l) l.length i := by
  refine rooted_small (upF l) (l.map (fun x => numS x.f1)) l.length ?_ (by rw [List.length_map]; exact Nat.le_refl _) _ (Nat.le_succ _) i
  have h0 : nxt (upF l) 0 = 0 := by
    show (upS l 0).2 = 0
    rw [show upS l 0 = (0, 0) from up_none l 0 (fun x hx hh => fits_num (h1 x hx) hh.1 hh.2) _]
  have hn0 : ∀ t, ¬ Rc (upF l) t 0 := by
    intro t
    induction t with
    | zero => exact (by decide : ¬ (0 : Int) = 1)
    | succ t ih => intro hh; have := hh.2; rw [h0] at this; exact ih this
  intro t j hj
  refine Classical.byContradiction fun hm => ?_
  have : nxt (upF l) j = 0 := by
    show (upS l j).2 = 0
    rw [show upS l j = (0, 0) from up_none l j (fun x hx hh => hm (List.mem_map.2 ⟨x, hx, hh.2⟩)) _]
  have hh := hj.2
  rw [this] at hh
  exact hn0 t hh
theorem lkR_eq {l : List It} (h1 : ∀ x ∈ l, oneB l x = true) (x : It) : lkR l (l.length + 1) x = lkR l l.length x := by
  unfold lkR
  rw [rooted_eq h1]
theorem fits_eq {l : List It} {s : VS} (hi : Inv l s) (hok : okL l = true) {x : It} (hx : x ∈ l) : fitsS s (keptS x) = fitsS (sR l) (keptS x) := by
  have hr := (okP_key (hi.ok x hx)).2.2.1
  have hn := numS_range (keptS x).f4
  unfold fitsS
  rw [ino_eq hi hok hr, ino_eq hi hok (a := numS (keptS x).f4) (by omega)]
  rfl
/-- Right for the document: right for the program. -/
theorem good_look {l : List It} (h : goodR l = true) : ∃ s, lookS l = some s := by
  unfold goodR at h
  simp only [Bool.and_eq_true, List.all_eq_true] at h
  obtain ⟨hok, hk1, h1, h2⟩ := h
  have hasc := ((okL_iff l).1 hok).2
  have hokp : ∀ x ∈ l, okP x = true := fun x hx => by
    have ho := h1 x hx
    unfold oneB at ho
    rw [Bool.and_eq_true] at ho
    have hp : pe x = 0 := eq_of_beq ho.1
    unfold okP
    rw [Bool.and_eq_true]
    refine ⟨ho.1, ?_⟩
    by_cases hk : (keptS x).f0 = 1
    · rw [hk]
      have hf := ho.2
      unfold fitsS at hf
      rw [if_neg (by omega), if_neg (by omega), if_neg (by omega)] at hf
      have hf : (inR l (keptS x).f1).isSome = true := hf
      rw [inR_item hasc hx hp hk] at hf
      unfold decO at hf
      by_cases hd : (decS x.f1.data.toList).2.2.2.2.2 = 0
      · rw [hd]; rfl
      · rw [if_neg hd] at hf; cases hf
    · rw [beq_eq_false_iff_ne.2 hk]; rfl
  obtain ⟨s, hs⟩ := parseS_some l VS0 hokp
  have hi := parseS_inv l [] VS0 s inv0 hs
  rw [List.nil_append] at hi
  have hu : ∀ a, (s.up a).getD (0, 0) = upS l a := fun a => parseS_up l VS0 s hs a
  refine ⟨s, ?_⟩
  unfold lookS
  rw [hs]
  refine if_pos ⟨hok, ?_, ?_, ?_⟩
  · rw [ino_eq hi hok ⟨by decide, by decide⟩]; exact eq_of_beq hk1
  · rw [hi.all, List.all_map, List.all_eq_true]
    intro x hx
    show fitsS s (keptS x) = true
    rw [fits_eq hi hok hx]
    have ho := h1 x hx
    unfold oneB at ho
    exact ((Bool.and_eq_true _ _).mp ho).2
  · rw [hi.all, lookAll_eq hi hok hu l (fun _ h => h), List.all_eq_true]
    intro x hx
    rw [← lkR_eq h1]
    exact h2 x hx
theorem look_good {l : List It} {s : VS} (h : lookS l = some s) : goodR l = true := by
  have hr := look_rt h
  unfold lookS at h
  cases hs : parseS l VS0 with
  | none => rw [hs] at h; cases h
  | some s' =>
    rw [hs] at h
    simp only [] at h
    by_cases hc : okL l = true ∧ ((s'.ino 1).getD zI).kd = 1 ∧ s'.all.all (fitsS s') = true ∧ lookAll s' s'.all = true
    · rw [if_pos hc] at h
      obtain rfl := Option.some.inj h
      have hi := hr.inv
      have hu : ∀ a, (s'.up a).getD (0, 0) = upS l a := fun a => parseS_up l VS0 s' hs a
      have hone : ∀ x ∈ l, oneB l x = true := fun x hx => by
        unfold oneB
        rw [Bool.and_eq_true, okP_pe (hi.ok x hx), ← fits_eq hi hc.1 hx]
        exact ⟨rfl, hr.fits x hx⟩
      unfold goodR
      simp only [Bool.and_eq_true, List.all_eq_true]
      refine ⟨hc.1, ?_, hone, fun x hx => ?_⟩
      · rw [← ino_eq hi hc.1 ⟨by decide, by decide⟩]; exact beq_iff_eq.2 hc.2.1
      · rw [lkR_eq hone]
        have := hc.2.2.2
        rw [hi.all, lookAll_eq hi hc.1 hu l (fun _ h => h), List.all_eq_true] at this
        exact this x hx
    · rw [if_neg hc] at h; cases h
end Go.Proofs.YthbljhmjppjcjaaGreatDoor.Z
end

section
/- What Under, Same and SameChanges come to. -/
namespace Go.Proofs.YthbljhmjppjcjaaGreatDoor.Z
open Go.RowKit Go.Proofs.YthbljhmjppjcjaaGreatDoorW.PrintWords Go.Proofs.YthbljhmjppjcjaaGreatDoorW.PrintLast
set_option linter.unusedVariables false
def hp (p : List UInt8) (x : It) : Bool := p.isPrefixOf (key x)
theorem cut_pre (a b : ByteArray) : ((a.extract 0 ((b.size : Int) : Int).toNat).toList = b.toList) ↔ b.toList.isPrefixOf a.toList = true := by
  rw [Int.toNat_natCast, Lib.extract_eq, ByteArray.toList_eq, ByteArray.toList_eq, ByteArray.toList_eq, List.isPrefixOf_iff_prefix, List.prefix_iff_eq_take]
  have hs : b.size = b.data.toList.length := by rw [Array.length_toList]; rfl
  rw [hs]
  simp only [List.drop_zero, Nat.sub_zero]
  exact eq_comm
theorem pre_size {a b : ByteArray} (h : b.toList.isPrefixOf a.toList = true) : b.size ≤ a.size := by
  rw [ByteArray.toList_eq, ByteArray.toList_eq, List.isPrefixOf_iff_prefix] at h
  have := h.length_le
  simpa using this
theorem hasPrefix_f (a b : ByteArray) : strings_HasPrefix.f a b = some (b.toList.isPrefixOf a.toList) := by
  unfold strings_HasPrefix.f stringslite_HasPrefix.f
  by_cases h : (a.size : Int) ≥ (b.size : Int)
  · rw [if_pos h, if_pos (by omega), if_pos (by omega)]
    have := cut_pre a b
    simp only [Option.bind_some, Option.some.injEq]
    rw [Bool.eq_iff_iff, beq_iff_eq]
    exact this
  · rw [if_neg h]
    have hn : b.toList.isPrefixOf a.toList = false := by
      cases hb : b.toList.isPrefixOf a.toList
      · rfl
      · have := pre_size hb; omega
    rw [hn]; rfl
theorem pre_not_lt : ∀ {p k : List UInt8}, p.isPrefixOf k = true → Op.bytesLess k p = false
  | [], [], _ => rfl
  | [], _ :: _, _ => rfl
  | _ :: _, [], h => by simp at h
  | c :: p, d :: k, h => by
    simp only [List.isPrefixOf, Bool.and_eq_true, beq_iff_eq] at h
    obtain ⟨rfl, h⟩ := h
    have := pre_not_lt h
    simp [Op.bytesLess, this]
theorem pre_between : ∀ {p x y : List UInt8}, Op.bytesLess x p = false → Op.bytesLess x y = true → p.isPrefixOf y = true → p.isPrefixOf x = true
  | [], _, _, _, _, _ => by simp
  | _ :: _, _, [], _, _, h => by simp at h
  | c :: p, [], d :: y, h, _, _ => by simp [Op.bytesLess] at h
  | c :: p, e :: x, d :: y, h1, h2, h3 => by
    simp only [List.isPrefixOf, Bool.and_eq_true, beq_iff_eq] at h3 ⊢
    obtain ⟨rfl, h3⟩ := h3
    simp only [Op.bytesLess, Bool.or_eq_false_iff, decide_eq_false_iff_not, Bool.and_eq_false_iff, beq_eq_false_iff_ne, Bool.or_eq_true, decide_eq_true_eq, Bool.and_eq_true, beq_iff_eq] at h1 h2
    obtain ⟨h1, h4⟩ := h1
    rcases h2 with h2 | ⟨rfl, h2⟩
    · exact absurd h2 h1
    · refine ⟨rfl, pre_between ?_ h2 h3⟩
      rcases h4 with h4 | h4
      · exact absurd rfl h4
      · exact h4
theorem filter_up {p : List UInt8} : ∀ {u : List It}, Asc u → (∀ x ∈ u, Op.bytesLess (key x) p = false) → u.filter (hp p) = u.takeWhile (hp p)
  | [], _, _ => rfl
  | x :: u, ha, h => by
    cases hx : hp p x with
    | true =>
      rw [List.filter_cons_of_pos hx, List.takeWhile_cons_of_pos hx]
      exact congrArg _ (filter_up ha.cons.2 (fun y hy => h y (List.mem_cons_of_mem _ hy)))
    | false =>
      rw [List.takeWhile_cons_of_neg (by simp [hx]), List.filter_eq_nil_iff]
      intro y hy
      rcases List.mem_cons.1 hy with rfl | hy
      · simp [hx]
      · intro hyp
        have := pre_between (h x (List.mem_cons_self ..)) (ha.cons.1 y hy) hyp
        unfold hp at hx; rw [hx] at this; cases this
theorem filter_pre {l : List It} (ha : Asc l) (p : List UInt8) : l.filter (hp p) = (up l p).takeWhile (hp p) := by
  have h2 : Asc (lo l p ++ up l p) := by rw [lo_up]; exact ha
  rw [← filter_up h2.parts.2.1 (up_ge ha)]
  conv => lhs; rw [← lo_up l p]
  rw [List.filter_append, List.filter_eq_nil_iff.2, List.nil_append]
  intro x hx hb
  have := pre_not_lt hb
  rw [lo_mem x hx] at this; cases this
theorem itUnder_l0 (l : List It) (hl : l.length ≤ 4398046511104) (a : ByteArray) (pos : Nat) : ∀ d i : Nat, l.length = i + d → pos ≤ i →
    Ev (fun k => item_Under.l0 k l a (pos : Int) (i : Int)) ((l.take (i + ((l.drop i).takeWhile (hp a.toList)).length)).drop pos, 0) := by
  have hcl : ∀ x : List It, x.length ≤ l.length → slices_Clone_api_Item_api_Item.f x = some x := by
    intro x hx
    unfold slices_Clone_api_Item_api_Item.f
    rw [if_pos (by omega)]
  intro d
  induction d with
  | zero =>
    intro i hi hp_
    refine Ev.step (fun k => by rw [item_Under.l0]) (Ev.ifn (by omega) (Ev.ifp (by omega) (Ev.ifp (by omega) (Ev.ifp (by omega) (Ev.bindc (hcl _ ?_) (Ev.const ?_))))))
    · rw [List.length_drop, List.length_take]; omega
    · rw [List.drop_of_length_le (i := i) (by omega)]; simp
  | succ d ih =>
    intro i hi hp_
    have hlt : i < l.length := by omega
    refine Ev.step (fun k => by rw [item_Under.l0]) (Ev.ifp (by omega) (Ev.ifp (by omega) (Ev.bindc (by rw [rd_get l i hlt]; exact hasPrefix_f _ _) ?_)))
    rw [List.drop_eq_getElem_cons hlt]
    cases hx : a.toList.isPrefixOf (l[i]).f0.toList with
    | true =>
      rw [List.takeWhile_cons_of_pos (show hp a.toList l[i] = true from hx)]
      refine Ev.ifp rfl ?_
      rw [w64 (by omega) (by omega)]
      refine Ev.val (ih (i + 1) (by omega) (by omega)) ?_
      rw [List.length_cons, Nat.add_assoc, Nat.add_comm 1]
    | false =>
      rw [List.takeWhile_cons_of_neg (show ¬ hp a.toList l[i] = true by unfold hp key; rw [hx]; simp)]
      refine Ev.ifn (by simp) (Ev.ifp (by omega) (Ev.ifp (by omega) (Ev.ifp (by omega) (Ev.bindc (hcl _ ?_) (Ev.const ?_)))))
      · rw [List.length_drop, List.length_take]; omega
      · simp
def underS (l : List It) (p : List UInt8) : List It × Int := if okL l = true then (l.filter (hp p), 0) else ([], 4)
theorem itUnder (l : List It) (hl : l.length ≤ 4398046511104) (a : ByteArray) : Ev (fun k => item_Under.f k l a) (underS l a.toList) := by
  unfold item_Under.f
  refine Ev.bind (itCheck l hl) ?_
  by_cases ho : okL l = true
  · have ha := ((okL_iff l).1 ho).2
    unfold underS
    rw [if_pos ho]
    refine Ev.ifp (by rw [ho]; rfl) (Ev.bind (place_f ha hl a) (Ev.val (itUnder_l0 l hl a _ (l.length - (lo l a.toList).length) _ (by have := lo_le l a.toList; omega) (Nat.le_refl _)) ?_))
    rw [filter_pre ha, up_drop, ← List.take_drop]
    exact congrArg (fun z => (z, (0 : Int))) (List.prefix_iff_eq_take.1 (List.takeWhile_prefix _)).symm
  · have ho' : okL l = false := by simpa using ho
    unfold underS
    rw [ho']
    exact Ev.ifn (by decide) (Ev.const rfl)
-- Same
end Go.Proofs.YthbljhmjppjcjaaGreatDoor.Z
end

section
namespace Go.Proofs.YthbljhmjppjcjaaGreatDoor.Z
open Go.RowKit Go.Proofs.YthbljhmjppjcjaaGreatDoorW.PrintWords Go.Proofs.YthbljhmjppjcjaaGreatDoorW.PrintLast Go.Proofs.YthbljhmjppjcjaaGreatDoorW.PrintMore
attribute [local go_sem] max2_int min2_int max_two min_two max_three min_three max_four min_four   -- for this text's walks alone
set_option linter.unusedVariables false
set_option linter.unusedSimpArgs false
def cmp_Or_api_Errno.l0 : Nat → Int → List Int → Int → Int → Option (Int)
 | 0, _, _, _, _ => none
 | k + 1, x3, x6, x7, x8 => if x8 < x7 then (if 0 ≤ x8 then (if x8 < (x6.length : Int) then (if (rd x6 x8) = x3 then (cmp_Or_api_Errno.l0 k x3 x6 x7 (wrap64 (x8 + 1))) else (some (rd x6 x8))) else (none)) else (none)) else (some x3)
def cmp_Or_api_Errno.f (k : Nat) (l0 : List Int) : Option (Int) := cmp_Or_api_Errno.l0 k 0 l0 (l0.length : Int) 0
theorem cmp_Or_api_Errno.mono_l : ∀ k, (∀ y0 y1 y2 y3, LeO (cmp_Or_api_Errno.l0 k y0 y1 y2 y3) (cmp_Or_api_Errno.l0 (k + 1) y0 y1 y2 y3))
 | 0 => fun _ _ _ _ r h => by simp [cmp_Or_api_Errno.l0] at h
 | k + 1 => by
  have ih0 := cmp_Or_api_Errno.mono_l k
  ·intro y0 y1 y2 y3
   unfold cmp_Or_api_Errno.l0
   repeat' first
   | (with_reducible exact ih0 _ _ _ _)
   | (with_reducible exact LeO.refl _)
   | (with_reducible exact LeO.none _)
   | (with_reducible refine LeO.ite ?_ ?_)
   | (with_reducible refine LeO.bind ?_ (fun _ => ?_))
   | exact ih0 _ _ _ _
   | exact LeO.none _
   | refine LeO.ite ?_ ?_
   | refine LeO.bind ?_ (fun _ => ?_)
theorem cmp_Or_api_Errno.mono : ∀ a0 k, LeO (cmp_Or_api_Errno.f k a0) (cmp_Or_api_Errno.f (k + 1) a0) := by
 intro a0 k
 have ih0 := cmp_Or_api_Errno.mono_l k
 unfold cmp_Or_api_Errno.f
 repeat' first
   | (with_reducible exact ih0 _ _ _ _)
   | (with_reducible exact LeO.refl _)
   | (with_reducible exact LeO.none _)
   | (with_reducible refine LeO.ite ?_ ?_)
   | (with_reducible refine LeO.bind ?_ (fun _ => ?_))
   | exact ih0 _ _ _ _
   | exact LeO.none _
   | refine LeO.ite ?_ ?_
   | refine LeO.bind ?_ (fun _ => ?_)
set_option maxHeartbeats 8000000 in
set_option maxRecDepth 100000 in
theorem cmp_Or_api_Errno.calls (k : Nat) (A0 : Option Addr) (c0 : Nat) (l0 : List Int) (r : Int) (w : World) (hr0 : Kd.C (Kd.int .i64) w A0 l0.length l0) (hc0 : l0.length ≤ c0) (h : cmp_Or_api_Errno.f k l0 = some r) :
  Calls Tryz.prog 25 #[.slice A0 l0.length c0] w fun e w' => e = .returned (.int .i64 r) ∧ Drawn0 w w' := by
 have HR0 := Aside0.mk hr0
 have HC0 := Aside0.mk hc0
 clear hr0 hc0
 have H : (cmp_Or_api_Errno.l0 k 0 l0 (l0.length : Int) 0) = some r := h
 clear h
 have H' := Aside0.mk H
 clear H
 go_enter Tryz.func25, Tryz.ntmps25
 go_wp2
 go_loopg [8] k (fun kq v8 w' => ∃ (x8_1 : Int), v8 = .int .i64 x8_1 ∧ Aside0 (cmp_Or_api_Errno.l0 kq 0 l0 (l0.length : Int) x8_1 = some r) ∧ Aside0 (kq ≤ k) ∧ Drawn0 w w')
 case atStart => exact ⟨(0), (by first | rfl | (simp; done) | (simp [*]; done)), H', ⟨Nat.le_refl _⟩, by repeat (first | exact Drawn0.refl _ | apply Drawn0.step)⟩
 case round =>
  clear H'
  obtain ⟨x8_1, rfl, HA, HK1, ⟨m1, rfl⟩⟩ := hrel
  cases gk with
  | zero => exact absurd HA.out (by simp [cmp_Or_api_Errno.l0])
  | succ k1 =>
   have H := HA.out
   clear HA
   simp only [cmp_Or_api_Errno.l0] at H
   by_cases c2 : x8_1 < (l0.length : Int)
   ·rw [if_pos c2] at H
    have c2b0 : decide (x8_1 < (l0.length : Int)) = true := decide_eq_true c2
    clear c2
    by_cases c3 : 0 ≤ x8_1
    ·rw [if_pos c3] at H
     have c3b0 : decide (0 ≤ x8_1) = true := decide_eq_true c3
     clear c3
     by_cases c4 : x8_1 < (l0.length : Int)
     ·rw [if_pos c4] at H
      have c4b0 : decide (x8_1 < (l0.length : Int)) = true := decide_eq_true c4
      clear c4
      by_cases c5 : (rd l0 x8_1) = 0
      ·rw [if_pos c5] at H
       have c5b0 : ((rd l0 x8_1) == 0) = true := beq_iff_eq.mpr c5
       have c5b1 : ((rd l0 x8_1) != 0) = false := bne_eq_false_iff_eq.mpr c5
       clear c5
       have H' := Aside0.mk H
       clear H
       have p225 : 0 ≤ (x8_1 : Int) := of_decide_eq_true (by first | (with_reducible assumption) | assumption)
       have q225 : x8_1 < (l0.length : Int) := of_decide_eq_true (by first | (with_reducible assumption) | assumption)
       obtain ⟨ad225, e225, hx225_0⟩ := Kd.at_int HR0.out x8_1 p225 q225
       cases e225
       replace p225 := eq_true p225
       replace q225 := eq_true q225
       go_wp2
       go_roundg k1
       case measure => have := HK1.out; omega
       case rel => exact ⟨(wrap64 (x8_1 + 1)), (by first | rfl | (simp; done) | (simp [*]; done)), H', ⟨by have := HK1.out; omega⟩, by repeat (first | exact Drawn0.refl _ | apply Drawn0.step)⟩
      rw [if_neg c5] at H
      have c5b0 : ((rd l0 x8_1) == 0) = false := beq_eq_false_iff_ne.mpr c5
      have c5b1 : ((rd l0 x8_1) != 0) = true := bne_iff_ne.mpr c5
      obtain rfl := Option.some.inj H
      have p225 : 0 ≤ (x8_1 : Int) := of_decide_eq_true (by first | (with_reducible assumption) | assumption)
      have q225 : x8_1 < (l0.length : Int) := of_decide_eq_true (by first | (with_reducible assumption) | assumption)
      obtain ⟨ad225, e225, hx225_0⟩ := Kd.at_int HR0.out x8_1 p225 q225
      cases e225
      replace p225 := eq_true p225
      replace q225 := eq_true q225
      go_wp2
      go_ret
      exact ⟨by first | rfl | (simp; done) | (simp [*]; done), by repeat (first | exact Drawn0.refl _ | apply Drawn0.step)⟩
     rw [if_neg c4] at H
     exact absurd H (by simp)
    rw [if_neg c3] at H
    exact absurd H (by simp)
   rw [if_neg c2] at H
   have c2b0 : decide (x8_1 < (l0.length : Int)) = false := decide_eq_false c2
   clear c2
   obtain rfl := Option.some.inj H
   go_wp2
   go_ret
   exact ⟨by first | rfl | (simp; done) | (simp [*]; done), by repeat (first | exact Drawn0.refl _ | apply Drawn0.step)⟩
def item_CheckChanges.l0 : Nat → List (S41) → Int → Int → Option (Int)
 | 0, _, _, _ => none
 | k + 1, x5, x6, x7 => if x7 < x6 then (if 0 ≤ x7 then (if x7 < (x5.length : Int) then ((item_right.f ((rd_T41 x5 x7).f0) ((rd_T41 x5 x7).f2)).bind fun t228 => (if t228 = true then (if ((rd_T41 x5 x7).f1 = true) then (item_CheckChanges.l0 k x5 x6 (wrap64 (x7 + 1))) else (if ((rd_T41 x5 x7).f2).toList = ([] : List UInt8) then (item_CheckChanges.l0 k x5 x6 (wrap64 (x7 + 1))) else (some 4))) else (some 4))) else (none)) else (none)) else (some 0)
def item_CheckChanges.f (k : Nat) (l0 : List (S41)) : Option (Int) := item_CheckChanges.l0 k l0 (l0.length : Int) 0
theorem item_CheckChanges.mono_l : ∀ k, (∀ y0 y1 y2, LeO (item_CheckChanges.l0 k y0 y1 y2) (item_CheckChanges.l0 (k + 1) y0 y1 y2))
 | 0 => fun _ _ _ r h => by simp [item_CheckChanges.l0] at h
 | k + 1 => by
  have ih0 := item_CheckChanges.mono_l k
  ·intro y0 y1 y2
   unfold item_CheckChanges.l0
   repeat' first
   | (with_reducible exact ih0 _ _ _)
   | (with_reducible exact LeO.refl _)
   | (with_reducible exact LeO.none _)
   | (with_reducible refine LeO.ite ?_ ?_)
   | (with_reducible refine LeO.bind ?_ (fun _ => ?_))
   | exact ih0 _ _ _
   | exact LeO.none _
   | refine LeO.ite ?_ ?_
   | refine LeO.bind ?_ (fun _ => ?_)
theorem item_CheckChanges.mono : ∀ a0 k, LeO (item_CheckChanges.f k a0) (item_CheckChanges.f (k + 1) a0) := by
 intro a0 k
 have ih0 := item_CheckChanges.mono_l k
 unfold item_CheckChanges.f
 repeat' first
   | (with_reducible exact ih0 _ _ _)
   | (with_reducible exact LeO.refl _)
   | (with_reducible exact LeO.none _)
   | (with_reducible refine LeO.ite ?_ ?_)
   | (with_reducible refine LeO.bind ?_ (fun _ => ?_))
   | exact ih0 _ _ _
   | exact LeO.none _
   | refine LeO.ite ?_ ?_
   | refine LeO.bind ?_ (fun _ => ?_)
set_option maxHeartbeats 8000000 in
set_option maxRecDepth 100000 in
theorem item_CheckChanges.calls (k : Nat) (A0 : Option Addr) (c0 : Nat) (l0 : List (S41)) (r : Int) (w : World) (hr0 : Kd.C k41 w A0 l0.length l0) (hc0 : l0.length ≤ c0) (h : item_CheckChanges.f k l0 = some r) :
  Calls Tryz.prog 27 #[.slice A0 l0.length c0] w fun e w' => e = .returned (.int .i64 r) ∧ Below w.heap.size w w' := by
 have hu41 := Tryz.underlying41
 have HR0 := Aside0.mk hr0
 have HC0 := Aside0.mk hc0
 clear hr0 hc0
 have HB := Aside0.mk (Below.refl w.heap.size w)
 have H : (item_CheckChanges.l0 k l0 (l0.length : Int) 0) = some r := h
 clear h
 have H' := Aside0.mk H
 clear H
 go_enter Tryz.func27, Tryz.ntmps27
 go_wp2
 go_loopg [7] k (fun kq v7 w' => ∃ (x7_1 : Int), v7 = .int .i64 x7_1 ∧ Aside0 (item_CheckChanges.l0 kq l0 (l0.length : Int) x7_1 = some r) ∧ Aside0 (kq ≤ k) ∧ Aside0 (Below w.heap.size w w'))
 case atStart => exact ⟨(0), (by first | rfl | (simp; done) | (simp [*]; done)), H', ⟨Nat.le_refl _⟩, ⟨bel_⟩⟩
 case round =>
  clear H'
  obtain ⟨x7_1, rfl, HA, HK1, HB⟩ := hrel
  cases gk with
  | zero => exact absurd HA.out (by simp [item_CheckChanges.l0])
  | succ k1 =>
   have H := HA.out
   clear HA
   simp only [item_CheckChanges.l0] at H
   by_cases c2 : x7_1 < (l0.length : Int)
   ·rw [if_pos c2] at H
    have c2b0 : decide (x7_1 < (l0.length : Int)) = true := decide_eq_true c2
    clear c2
    by_cases c3 : 0 ≤ x7_1
    ·rw [if_pos c3] at H
     have c3b0 : decide (0 ≤ x7_1) = true := decide_eq_true c3
     clear c3
     by_cases c4 : x7_1 < (l0.length : Int)
     ·rw [if_pos c4] at H
      have c4b0 : decide (x7_1 < (l0.length : Int)) = true := decide_eq_true c4
      clear c4
      replace H := Option.bind_eq_some_iff.mp H
      obtain ⟨t228, A50, H⟩ := H
      replace H : (if t228 = true then (if ((rd_T41 l0 x7_1).f1 = true) then (item_CheckChanges.l0 k1 l0 (l0.length : Int) (wrap64 (x7_1 + 1))) else (if ((rd_T41 l0 x7_1).f2).toList = ([] : List UInt8) then (item_CheckChanges.l0 k1 l0 (l0.length : Int) (wrap64 (x7_1 + 1))) else (some 4))) else (some 4)) = some r := H
      have A5 := Aside0.mk A50
      clear A50
      by_cases c6 : t228 = true
      ·subst c6
       have H1 : (if ((rd_T41 l0 x7_1).f1 = true) then (item_CheckChanges.l0 k1 l0 (l0.length : Int) (wrap64 (x7_1 + 1))) else (if ((rd_T41 l0 x7_1).f2).toList = ([] : List UInt8) then (item_CheckChanges.l0 k1 l0 (l0.length : Int) (wrap64 (x7_1 + 1))) else (some 4))) = some r := by rw [if_pos rfl] at H; exact H
       clear H
       have H := H1
       clear H1
       obtain ⟨bq7, hbq7⟩ : ∃ b_ : Bool, b_ = ((rd_T41 l0 x7_1).f1) := ⟨_, rfl⟩
       replace H : (if (bq7 = true) then (item_CheckChanges.l0 k1 l0 (l0.length : Int) (wrap64 (x7_1 + 1))) else (if ((rd_T41 l0 x7_1).f2).toList = ([] : List UInt8) then (item_CheckChanges.l0 k1 l0 (l0.length : Int) (wrap64 (x7_1 + 1))) else (some 4))) = some r := by rw [← hbq7] at H; exact H
       have Nbq7 := Aside0.mk hbq7
       clear hbq7
       by_cases c8 : (bq7 = true)
       ·subst c8
        have H1 : (item_CheckChanges.l0 k1 l0 (l0.length : Int) (wrap64 (x7_1 + 1))) = some r := by rw [if_pos rfl] at H; exact H
        clear H
        have H := H1
        clear H1
        have H' := Aside0.mk H
        clear H
        have p226 : 0 ≤ (x7_1 : Int) := of_decide_eq_true (by first | (with_reducible assumption) | assumption)
        have q226 : x7_1 < (l0.length : Int) := of_decide_eq_true (by first | (with_reducible assumption) | assumption)
        obtain ⟨ad226, e226, hx226_0, hx226_1, hx226_2⟩ := at_T41 HR0.out x7_1 p226 q226
        (try rw [← Nbq7.out] at hx226_1)
        cases e226
        replace hx226_0 := (HB.out.cell (World.block_lt_of_cell? w _ hx226_0)).trans hx226_0
        replace hx226_1 := (HB.out.cell (World.block_lt_of_cell? w _ hx226_1)).trans hx226_1
        replace hx226_2 := (HB.out.cell (World.block_lt_of_cell? w _ hx226_2)).trans hx226_2
        replace p226 := eq_true p226
        replace q226 := eq_true q226
        go_wp2_with (first | ((with_reducible refine gate_dst (N := 4) rfl ?_); refine bx_ (N := 4) (cs := #[.string (⟨#[]⟩ : ByteArray), .bool false, .string (⟨#[]⟩ : ByteArray)]) (t := 41) ?_; intro gb227 hg w9 hbox hb; have BK227 := Aside0.mk (hbox); have GW227 := ge_ hg; have GE227 := ge_ hg; replace HB := hb_ hb; clear hb hbox hg; obtain ⟨hcz10_0, hcz10_1, hcz10_2⟩ := cl3_ BK227; obtain ⟨hfz10_0, hfz10_1, hfz10_2⟩ := fz3_ BK227) | ((with_reducible refine gate_callee (f := 51) rfl ?_); refine gl_ (some 15) Tryz.func51 #[.string ((rd_T41 l0 x7_1).f0), .string ((rd_T41 l0 x7_1).f2)] ?_; (with_reducible refine (item_right.calls ((rd_T41 l0 x7_1).f0) ((rd_T41 l0 x7_1).f2) true _ A5.out).mono ?_); rintro e w' ⟨rfl, ⟨nd, rfl⟩⟩; refine ⟨_, rfl, ?_⟩))
        go_roundg k1
        case measure => have := HK1.out; omega
        case rel => exact ⟨(wrap64 (x7_1 + 1)), (by first | rfl | (simp; done) | (simp [*]; done)), H', ⟨by have := HK1.out; omega⟩, ⟨bel_⟩⟩
       replace c8 := Bool.eq_false_iff.mpr c8
       subst c8
       have H1 : (if ((rd_T41 l0 x7_1).f2).toList = ([] : List UInt8) then (item_CheckChanges.l0 k1 l0 (l0.length : Int) (wrap64 (x7_1 + 1))) else (some 4)) = some r := by rw [if_neg (show ¬ (false = true) by decide)] at H; exact H
       clear H
       have H := H1
       clear H1
       by_cases c11 : ((rd_T41 l0 x7_1).f2).toList = ([] : List UInt8)
       ·rw [if_pos c11] at H
        have c11b0 : (((rd_T41 l0 x7_1).f2).toList == ([] : List UInt8)) = true := beq_iff_eq.mpr c11
        have c11b1 : (((rd_T41 l0 x7_1).f2).toList != ([] : List UInt8)) = false := bne_eq_false_iff_eq.mpr c11
        clear c11
        have H' := Aside0.mk H
        clear H
        have p226 : 0 ≤ (x7_1 : Int) := of_decide_eq_true (by first | (with_reducible assumption) | assumption)
        have q226 : x7_1 < (l0.length : Int) := of_decide_eq_true (by first | (with_reducible assumption) | assumption)
        obtain ⟨ad226, e226, hx226_0, hx226_1, hx226_2⟩ := at_T41 HR0.out x7_1 p226 q226
        (try rw [← Nbq7.out] at hx226_1)
        cases e226
        replace hx226_0 := (HB.out.cell (World.block_lt_of_cell? w _ hx226_0)).trans hx226_0
        replace hx226_1 := (HB.out.cell (World.block_lt_of_cell? w _ hx226_1)).trans hx226_1
        replace hx226_2 := (HB.out.cell (World.block_lt_of_cell? w _ hx226_2)).trans hx226_2
        replace p226 := eq_true p226
        replace q226 := eq_true q226
        go_wp2_with (first | ((with_reducible refine gate_dst (N := 4) rfl ?_); refine bx_ (N := 4) (cs := #[.string (⟨#[]⟩ : ByteArray), .bool false, .string (⟨#[]⟩ : ByteArray)]) (t := 41) ?_; intro gb227 hg w12 hbox hb; have BK227 := Aside0.mk (hbox); have GW227 := ge_ hg; have GE227 := ge_ hg; replace HB := hb_ hb; clear hb hbox hg; obtain ⟨hcz13_0, hcz13_1, hcz13_2⟩ := cl3_ BK227; obtain ⟨hfz13_0, hfz13_1, hfz13_2⟩ := fz3_ BK227) | ((with_reducible refine gate_callee (f := 51) rfl ?_); refine gl_ (some 15) Tryz.func51 #[.string ((rd_T41 l0 x7_1).f0), .string ((rd_T41 l0 x7_1).f2)] ?_; (with_reducible refine (item_right.calls ((rd_T41 l0 x7_1).f0) ((rd_T41 l0 x7_1).f2) true _ A5.out).mono ?_); rintro e w' ⟨rfl, ⟨nd, rfl⟩⟩; refine ⟨_, rfl, ?_⟩))
        go_roundg k1
        case measure => have := HK1.out; omega
        case rel => exact ⟨(wrap64 (x7_1 + 1)), (by first | rfl | (simp; done) | (simp [*]; done)), H', ⟨by have := HK1.out; omega⟩, ⟨bel_⟩⟩
       rw [if_neg c11] at H
       have c11b0 : (((rd_T41 l0 x7_1).f2).toList == ([] : List UInt8)) = false := beq_eq_false_iff_ne.mpr c11
       have c11b1 : (((rd_T41 l0 x7_1).f2).toList != ([] : List UInt8)) = true := bne_iff_ne.mpr c11
       obtain rfl := Option.some.inj H
       have p226 : 0 ≤ (x7_1 : Int) := of_decide_eq_true (by first | (with_reducible assumption) | assumption)
       have q226 : x7_1 < (l0.length : Int) := of_decide_eq_true (by first | (with_reducible assumption) | assumption)
       obtain ⟨ad226, e226, hx226_0, hx226_1, hx226_2⟩ := at_T41 HR0.out x7_1 p226 q226
       (try rw [← Nbq7.out] at hx226_1)
       cases e226
       replace hx226_0 := (HB.out.cell (World.block_lt_of_cell? w _ hx226_0)).trans hx226_0
       replace hx226_1 := (HB.out.cell (World.block_lt_of_cell? w _ hx226_1)).trans hx226_1
       replace hx226_2 := (HB.out.cell (World.block_lt_of_cell? w _ hx226_2)).trans hx226_2
       replace p226 := eq_true p226
       replace q226 := eq_true q226
       go_wp2_with (first | ((with_reducible refine gate_dst (N := 4) rfl ?_); refine bx_ (N := 4) (cs := #[.string (⟨#[]⟩ : ByteArray), .bool false, .string (⟨#[]⟩ : ByteArray)]) (t := 41) ?_; intro gb227 hg w14 hbox hb; have BK227 := Aside0.mk (hbox); have GW227 := ge_ hg; have GE227 := ge_ hg; replace HB := hb_ hb; clear hb hbox hg; obtain ⟨hcz15_0, hcz15_1, hcz15_2⟩ := cl3_ BK227; obtain ⟨hfz15_0, hfz15_1, hfz15_2⟩ := fz3_ BK227) | ((with_reducible refine gate_callee (f := 51) rfl ?_); refine gl_ (some 15) Tryz.func51 #[.string ((rd_T41 l0 x7_1).f0), .string ((rd_T41 l0 x7_1).f2)] ?_; (with_reducible refine (item_right.calls ((rd_T41 l0 x7_1).f0) ((rd_T41 l0 x7_1).f2) true _ A5.out).mono ?_); rintro e w' ⟨rfl, ⟨nd, rfl⟩⟩; refine ⟨_, rfl, ?_⟩))
       go_ret
       exact ⟨by first | rfl | (simp [errW_none, errW_some] <;> rfl) | (simp [*, errW_none, errW_some] <;> rfl), bel_⟩
      replace c6 := Bool.eq_false_iff.mpr c6
      subst c6
      have H1 : (some 4) = some r := by rw [if_neg (show ¬ (false = true) by decide)] at H; exact H
      clear H
      have H := H1
      clear H1
      obtain rfl := Option.some.inj H
      have p226 : 0 ≤ (x7_1 : Int) := of_decide_eq_true (by first | (with_reducible assumption) | assumption)
      have q226 : x7_1 < (l0.length : Int) := of_decide_eq_true (by first | (with_reducible assumption) | assumption)
      obtain ⟨ad226, e226, hx226_0, hx226_1, hx226_2⟩ := at_T41 HR0.out x7_1 p226 q226
      cases e226
      replace hx226_0 := (HB.out.cell (World.block_lt_of_cell? w _ hx226_0)).trans hx226_0
      replace hx226_1 := (HB.out.cell (World.block_lt_of_cell? w _ hx226_1)).trans hx226_1
      replace hx226_2 := (HB.out.cell (World.block_lt_of_cell? w _ hx226_2)).trans hx226_2
      replace p226 := eq_true p226
      replace q226 := eq_true q226
      go_wp2_with (first | ((with_reducible refine gate_dst (N := 4) rfl ?_); refine bx_ (N := 4) (cs := #[.string (⟨#[]⟩ : ByteArray), .bool false, .string (⟨#[]⟩ : ByteArray)]) (t := 41) ?_; intro gb227 hg w16 hbox hb; have BK227 := Aside0.mk (hbox); have GW227 := ge_ hg; have GE227 := ge_ hg; replace HB := hb_ hb; clear hb hbox hg; obtain ⟨hcz17_0, hcz17_1, hcz17_2⟩ := cl3_ BK227; obtain ⟨hfz17_0, hfz17_1, hfz17_2⟩ := fz3_ BK227) | ((with_reducible refine gate_callee (f := 51) rfl ?_); refine gl_ (some 15) Tryz.func51 #[.string ((rd_T41 l0 x7_1).f0), .string ((rd_T41 l0 x7_1).f2)] ?_; (with_reducible refine (item_right.calls ((rd_T41 l0 x7_1).f0) ((rd_T41 l0 x7_1).f2) false _ A5.out).mono ?_); rintro e w' ⟨rfl, ⟨nd, rfl⟩⟩; refine ⟨_, rfl, ?_⟩))
      go_ret
      exact ⟨by first | rfl | (simp [errW_none, errW_some] <;> rfl) | (simp [*, errW_none, errW_some] <;> rfl), bel_⟩
     rw [if_neg c4] at H
     exact absurd H (by simp)
    rw [if_neg c3] at H
    exact absurd H (by simp)
   rw [if_neg c2] at H
   have c2b0 : decide (x7_1 < (l0.length : Int)) = false := decide_eq_false c2
   clear c2
   obtain rfl := Option.some.inj H
   go_wp2
   go_ret
   exact ⟨by first | rfl | (simp [errW_none, errW_some] <;> rfl) | (simp [*, errW_none, errW_some] <;> rfl), bel_⟩
mutual
def item_Apply.l0 : Nat → List (S71) → List (S41) → Int → Int → Option ((List (S71)) × Int)
 | 0, _, _, _, _ => none
 | k + 1, x0, x22, x23, x24 => if x24 < x23 then (if 0 ≤ x24 then (if x24 < (x22.length : Int) then ((item_place.f k x0 ((rd_T41 x22 x24).f0)).bind fun bt240 => (if bt240.2 = true then (item_Apply.j1 k x0 bt240.1 bt240.2 x22 x23 x24 ((rd_T41 x22 x24).f1) ((rd_T41 x22 x24).f0) ((rd_T41 x22 x24).f1) ((rd_T41 x22 x24).f2)) else (item_Apply.j1 k x0 bt240.1 bt240.2 x22 x23 x24 false ((rd_T41 x22 x24).f0) ((rd_T41 x22 x24).f1) ((rd_T41 x22 x24).f2)))) else (none)) else (none)) else (some (x0, 0))
def item_Apply.j1 : Nat → List (S71) → Int → Bool → List (S41) → Int → Int → Bool → ByteArray → Bool → ByteArray → Option ((List (S71)) × Int)
 | 0, _, _, _, _, _, _, _, _, _, _ => none
 | k + 1, x0, x9, x10, x22, x23, x24, x35, x240000, x240001, x240002 => if x35 = true then (if 0 ≤ x9 then (if x9 < (x0.length : Int) then (item_Apply.l0 k (x0.set (x9 : Int).toNat (⟨(rd_T71 x0 x9).f0, x240002⟩ : S71)) x22 x23 (wrap64 (x24 + 1))) else (none)) else (none)) else (if x10 = true then ((slices_Delete_api_Item_api_Item.f x0 x9 (wrap64 (x9 + 1))).bind fun t243 => (item_Apply.l0 k t243 x22 x23 (wrap64 (x24 + 1)))) else (if x240001 = true then ((slices_Insert_api_Item_api_Item.f x0 x9 (([(⟨x240000, x240002⟩ : S71)] : List (S71)))).bind fun t249 => (item_Apply.l0 k t249 x22 x23 (wrap64 (x24 + 1)))) else (item_Apply.l0 k x0 x22 x23 (wrap64 (x24 + 1)))))
end
def item_Apply.f (k : Nat) (l0 : List (S71)) (l1 : List (S41)) : Option ((List (S71)) × Int) := (item_Check.f k l0).bind fun t229 => ((item_CheckChanges.f k l1).bind fun t230 => ((cmp_Or_api_Errno.f k (([t229, t230] : List Int))).bind fun t234 => (if t234 = 0 then ((slices_Clone_api_Item_api_Item.f l0).bind fun t235 => (item_Apply.l0 k t235 l1 (l1.length : Int) 0)) else (some (([] : List (S71)), t234)))))
theorem item_Apply.mono_l : ∀ k, (∀ y0 y1 y2 y3, LeO (item_Apply.l0 k y0 y1 y2 y3) (item_Apply.l0 (k + 1) y0 y1 y2 y3)) ∧ (∀ y0 y1 y2 y3 y4 y5 y6 y7 y8 y9, LeO (item_Apply.j1 k y0 y1 y2 y3 y4 y5 y6 y7 y8 y9) (item_Apply.j1 (k + 1) y0 y1 y2 y3 y4 y5 y6 y7 y8 y9))
 | 0 => ⟨fun _ _ _ _ r h => by simp [item_Apply.l0] at h, fun _ _ _ _ _ _ _ _ _ _ r h => by simp [item_Apply.j1] at h⟩
 | k + 1 => by
  obtain ⟨ih0, ih1⟩ := item_Apply.mono_l k
  refine ⟨?_, ?_⟩
  ·intro y0 y1 y2 y3
   unfold item_Apply.l0
   repeat' first
   | (with_reducible exact ih0 _ _ _ _)
   | (with_reducible exact ih1 _ _ _ _ _ _ _ _ _ _)
   | (with_reducible exact cmp_Or_api_Errno.mono _ _)
   | (with_reducible exact item_Check.mono _ _)
   | (with_reducible exact item_CheckChanges.mono _ _)
   | (with_reducible exact item_place.mono _ _ _)
   | (with_reducible exact LeO.refl _)
   | (with_reducible exact LeO.none _)
   | (with_reducible refine LeO.ite ?_ ?_)
   | (with_reducible refine LeO.bind ?_ (fun _ => ?_))
   | exact ih0 _ _ _ _
   | exact ih1 _ _ _ _ _ _ _ _ _ _
   | exact cmp_Or_api_Errno.mono _ _
   | exact item_Check.mono _ _
   | exact item_CheckChanges.mono _ _
   | exact item_place.mono _ _ _
   | exact LeO.none _
   | refine LeO.ite ?_ ?_
   | refine LeO.bind ?_ (fun _ => ?_)
  intro y0 y1 y2 y3 y4 y5 y6 y7 y8 y9
  unfold item_Apply.j1
  repeat' first
  | (with_reducible exact ih0 _ _ _ _)
  | (with_reducible exact ih1 _ _ _ _ _ _ _ _ _ _)
  | (with_reducible exact cmp_Or_api_Errno.mono _ _)
  | (with_reducible exact item_Check.mono _ _)
  | (with_reducible exact item_CheckChanges.mono _ _)
  | (with_reducible exact item_place.mono _ _ _)
  | (with_reducible exact LeO.refl _)
  | (with_reducible exact LeO.none _)
  | (with_reducible refine LeO.ite ?_ ?_)
  | (with_reducible refine LeO.bind ?_ (fun _ => ?_))
  | exact ih0 _ _ _ _
  | exact ih1 _ _ _ _ _ _ _ _ _ _
  | exact cmp_Or_api_Errno.mono _ _
  | exact item_Check.mono _ _
  | exact item_CheckChanges.mono _ _
  | exact item_place.mono _ _ _
  | exact LeO.none _
  | refine LeO.ite ?_ ?_
  | refine LeO.bind ?_ (fun _ => ?_)
theorem item_Apply.mono : ∀ a0 a1 k, LeO (item_Apply.f k a0 a1) (item_Apply.f (k + 1) a0 a1) := by
 intro a0 a1 k
 obtain ⟨ih0, ih1⟩ := item_Apply.mono_l k
 unfold item_Apply.f
 repeat' first
   | (with_reducible exact ih0 _ _ _ _)
   | (with_reducible exact ih1 _ _ _ _ _ _ _ _ _ _)
   | (with_reducible exact cmp_Or_api_Errno.mono _ _)
   | (with_reducible exact item_Check.mono _ _)
   | (with_reducible exact item_CheckChanges.mono _ _)
   | (with_reducible exact item_place.mono _ _ _)
   | (with_reducible exact LeO.refl _)
   | (with_reducible exact LeO.none _)
   | (with_reducible refine LeO.ite ?_ ?_)
   | (with_reducible refine LeO.bind ?_ (fun _ => ?_))
   | exact ih0 _ _ _ _
   | exact ih1 _ _ _ _ _ _ _ _ _ _
   | exact cmp_Or_api_Errno.mono _ _
   | exact item_Check.mono _ _
   | exact item_CheckChanges.mono _ _
   | exact item_place.mono _ _ _
   | exact LeO.none _
   | refine LeO.ite ?_ ?_
   | refine LeO.bind ?_ (fun _ => ?_)
set_option maxHeartbeats 8000000 in
set_option maxRecDepth 100000 in
theorem item_Apply.calls (k : Nat) (A0 : Option Addr) (c0 : Nat) (l0 : List (S71)) (A1 : Option Addr) (c1 : Nat) (l1 : List (S41)) (r1 : List (S71)) (r2 : Int) (w : World) (hr0 : Kd.C k71 w A0 l0.length l0) (hc0 : l0.length ≤ c0) (hr1 : Kd.C k41 w A1 l1.length l1) (hc1 : l1.length ≤ c1) (h : item_Apply.f k l0 l1 = some (r1, r2)) :
  Calls Tryz.prog 9 #[.slice A0 l0.length c0, .slice A1 l1.length c1] w fun e w' => ∃ v0_ : Value, e = .returned (.tuple #[v0_, .int .i64 r2]) ∧ Kd.R k71 71 w' w.heap.size (fun _ => True) v0_ r1 ∧ Below w.heap.size w w' := by
 have hu41 := Tryz.underlying41
 have hu71 := Tryz.underlying71
 have HR0 := Aside0.mk hr0
 have HC0 := Aside0.mk hc0
 clear hr0 hc0
 have HR1 := Aside0.mk hr1
 have HC1 := Aside0.mk hc1
 clear hr1 hc1
 have HB := Aside0.mk (Below.refl w.heap.size w)
 have H : ((item_Check.f k l0).bind fun t229 => ((item_CheckChanges.f k l1).bind fun t230 => ((cmp_Or_api_Errno.f k (([t229, t230] : List Int))).bind fun t234 => (if t234 = 0 then ((slices_Clone_api_Item_api_Item.f l0).bind fun t235 => (item_Apply.l0 k t235 l1 (l1.length : Int) 0)) else (some (([] : List (S71)), t234)))))) = some (r1, r2) := h
 clear h
 replace H := Option.bind_eq_some_iff.mp H
 obtain ⟨t229, A30, H⟩ := H
 replace H : ((item_CheckChanges.f k l1).bind fun t230 => ((cmp_Or_api_Errno.f k (([t229, t230] : List Int))).bind fun t234 => (if t234 = 0 then ((slices_Clone_api_Item_api_Item.f l0).bind fun t235 => (item_Apply.l0 k t235 l1 (l1.length : Int) 0)) else (some (([] : List (S71)), t234))))) = some (r1, r2) := H
 have A3 := Aside0.mk A30
 clear A30
 replace H := Option.bind_eq_some_iff.mp H
 obtain ⟨t230, A40, H⟩ := H
 replace H : ((cmp_Or_api_Errno.f k (([t229, t230] : List Int))).bind fun t234 => (if t234 = 0 then ((slices_Clone_api_Item_api_Item.f l0).bind fun t235 => (item_Apply.l0 k t235 l1 (l1.length : Int) 0)) else (some (([] : List (S71)), t234)))) = some (r1, r2) := H
 have A4 := Aside0.mk A40
 clear A40
 obtain ⟨y231, hy231⟩ : ∃ y_ : List Int, y_ = (([t229, t230] : List Int)) := ⟨_, rfl⟩
 replace H : ((cmp_Or_api_Errno.f k y231).bind fun t234 => (if t234 = 0 then ((slices_Clone_api_Item_api_Item.f l0).bind fun t235 => (item_Apply.l0 k t235 l1 (l1.length : Int) 0)) else (some (([] : List (S71)), t234)))) = some (r1, r2) := by first | (rw [hy231]; with_reducible exact H) | (have H2_ := (Option.bind_some _ _).symm.trans H; rw [hy231]; with_reducible exact H2_) | (have H2_ := (Option.bind_some _ _).symm.trans H; with_reducible exact H2_) | with_reducible exact H | (rw [hy231]; exact H) | exact H
 have Ny231 := Aside0.mk hy231
 clear hy231
 replace H := Option.bind_eq_some_iff.mp H
 obtain ⟨t234, A50, H⟩ := H
 replace H : (if t234 = 0 then ((slices_Clone_api_Item_api_Item.f l0).bind fun t235 => (item_Apply.l0 k t235 l1 (l1.length : Int) 0)) else (some (([] : List (S71)), t234))) = some (r1, r2) := H
 have A5 := Aside0.mk A50
 clear A50
 by_cases c6 : t234 = 0
 ·rw [if_pos c6] at H
  have c6b0 : (t234 == 0) = true := beq_iff_eq.mpr c6
  have c6b1 : (t234 != 0) = false := bne_eq_false_iff_eq.mpr c6
  clear c6
  replace H := Option.bind_eq_some_iff.mp H
  obtain ⟨t235, A70, H⟩ := H
  replace H : (item_Apply.l0 k t235 l1 (l1.length : Int) 0) = some (r1, r2) := H
  have A7 := Aside0.mk A70
  clear A70
  have H' := Aside0.mk H
  clear H
  go_enter Tryz.func9, Tryz.ntmps9
  go_wp2_with (first | ((with_reducible refine gate_callee (f := 26) rfl ?_); refine gl_ (some 12) Tryz.func26 #[.slice A0 l0.length c0] ?_; (with_reducible refine (item_Check.calls k _ _ l0 t229 _ ?side1 ?side2 A3.out).mono ?_); (case side1 => repeat (first | exact HR0.out | (with_reducible refine Kd.C_alloc ?_ _) | (with_reducible refine Kd.C_drewN ?_ _) | (with_reducible refine Kd.C_drew ?_))); (case side2 => exact HC0.out); rintro e w8 ⟨rfl, hb⟩; refine ⟨_, rfl, ?_⟩; replace HB := hb_ hb; (try clear hb); (try clear hb2); (try clear hk); (try clear hi)) | ((with_reducible refine gate_callee (f := 27) rfl ?_); refine gl_ (some 14) Tryz.func27 #[.slice A1 l1.length c1] ?_; (with_reducible refine (item_CheckChanges.calls k _ _ l1 t230 _ ?side1 ?side2 A4.out).mono ?_); (case side1 => exact cb_ HR1); (case side2 => exact HC1.out); rintro e w9 ⟨rfl, hb⟩; refine ⟨_, rfl, ?_⟩; replace HB := hb_ hb; (try clear hb); (try clear hb2); (try clear hk); (try clear hi)) | ((with_reducible refine gate_dst (N := 15) rfl ?_); refine Kd.R_lit (Kd.int .i64) _ 25 ?hg (N := 15) ?hd (xs := ([t229, t230] : List Int)) (inner := [.int .i64 t229, .int .i64 t230]) (ok := fun _ => True) (okp := fun _ => True) ?hr ?hp (fun _ hk => hk) trivial (Below.refl _ _) (Nat.le_refl _) (by simp) ?_; (case hd => rfl); (case hg => rfl); (case hr => first | (go_simp; done) | (go_simp; rfl)); (case hp => exact (Reps.one (show Kd.M (Kd.int .i64) _ _ _ t229 [.int .i64 t229] from rfl) (Reps.one (show Kd.M (Kd.int .i64) _ _ _ t230 [.int .i64 t230] from rfl) (Reps.none _ _)))); intro v232 w10 ho11 hb hg_ hnew_; clear hg_ hnew_; (first | rw [← Ny231.out] at ho11 | (simp only [Int.reduceToNat] at ho11; rw [← Ny231.out] at ho11)); have HO233 := rl_ ho11; replace HB := hb_ hb; clear hb ho11; obtain ⟨Ao12, co12, eo12⟩ := Kd.R_slice HO233.out; subst eo12) | ((with_reducible refine gate_callee (f := 25) rfl ?_); refine gl_ (some 16) Tryz.func25 #[.slice Ao12 y231.length co12] ?_; (with_reducible refine (cmp_Or_api_Errno.calls k _ _ y231 t234 _ ?side1 ?side2 A5.out).mono ?_); (case side1 => exact cr_ HO233); (case side2 => exact (Kd.R_reads' HO233.out).2.1); rintro e w' ⟨rfl, ⟨nd, rfl⟩⟩; refine ⟨_, rfl, ?_⟩) | ((with_reducible refine gate_callee (f := 28) rfl ?_); refine gl_ (some 21) Tryz.func28 #[.slice A0 l0.length c0] ?_; (with_reducible refine (slices_Clone_api_Item_api_Item.calls _ _ l0 t235 _ ?side1 ?side2 A7.out).mono ?_); (case side1 => repeat (first | exact (Kd.C_below HR0.out bel_) | (with_reducible refine Kd.C_alloc ?_ _) | (with_reducible refine Kd.C_drewN ?_ _) | (with_reducible refine Kd.C_drew ?_))); (case side2 => exact HC0.out); rintro e w13 ⟨v236, rfl, ho0, hb⟩; refine ⟨_, rfl, ?_⟩; have HO237 := rl_ ho0; replace HO233 := rb_ HO233 hb; replace HB := hb_ hb; (try clear hb); (try clear hb2); (try clear hk); (try clear hi); (try clear ho0)))
  go_loopg [0, 24] k (fun kq v0 v24 w' => ∃ (x0_1 : List (S71)) (x24_1 : Int), v24 = .int .i64 x24_1 ∧ Aside0 (item_Apply.l0 kq x0_1 l1 (l1.length : Int) x24_1 = some (r1, r2)) ∧ Aside0 (kq ≤ k) ∧ Aside0 (Kd.R k71 71 w' w.heap.size (fun _ => True) v0 x0_1) ∧ Aside0 (Below w.heap.size w w'))
  case atStart => exact ⟨(t235), (0), (by first | rfl | (simp; done) | (simp [*]; done)), H', ⟨Nat.le_refl _⟩, ⟨ra_ HO237⟩, ⟨bel_⟩⟩
  case round =>
   clear H'
   try clear c1
   try clear c2
   try clear p2
   try clear c6
   try clear c6b0
   try clear c6b1
   try clear c9
   obtain ⟨x0_1, x24_1, rfl, HA, HK1, HO_0, HB⟩ := hrel
   cases gk with
   | zero => exact absurd HA.out (by simp [item_Apply.l0])
   | succ k1 =>
    have H := HA.out
    clear HA
    simp only [item_Apply.l0] at H
    by_cases c14 : x24_1 < (l1.length : Int)
    ·rw [if_pos c14] at H
     have c14b0 : decide (x24_1 < (l1.length : Int)) = true := decide_eq_true c14
     clear c14
     by_cases c15 : 0 ≤ x24_1
     ·rw [if_pos c15] at H
      have c15b0 : decide (0 ≤ x24_1) = true := decide_eq_true c15
      clear c15
      by_cases c16 : x24_1 < (l1.length : Int)
      ·rw [if_pos c16] at H
       have c16b0 : decide (x24_1 < (l1.length : Int)) = true := decide_eq_true c16
       clear c16
       replace H := Option.bind_eq_some_iff.mp H
       obtain ⟨⟨t240, t241⟩, A170, H⟩ := H
       replace H : (if t241 = true then (item_Apply.j1 k1 x0_1 t240 t241 l1 (l1.length : Int) x24_1 ((rd_T41 l1 x24_1).f1) ((rd_T41 l1 x24_1).f0) ((rd_T41 l1 x24_1).f1) ((rd_T41 l1 x24_1).f2)) else (item_Apply.j1 k1 x0_1 t240 t241 l1 (l1.length : Int) x24_1 false ((rd_T41 l1 x24_1).f0) ((rd_T41 l1 x24_1).f1) ((rd_T41 l1 x24_1).f2))) = some (r1, r2) := H
       have A17 := Aside0.mk A170
       clear A170
       have HC18 := Aside0.mk H
       clear H
       have p238 : 0 ≤ (x24_1 : Int) := of_decide_eq_true (by first | (with_reducible assumption) | assumption)
       have q238 : x24_1 < (l1.length : Int) := of_decide_eq_true (by first | (with_reducible assumption) | assumption)
       obtain ⟨ad238, e238, hx238_0, hx238_1, hx238_2⟩ := at_T41 HR1.out x24_1 p238 q238
       cases e238
       replace hx238_0 := (HB.out.cell (World.block_lt_of_cell? w _ hx238_0)).trans hx238_0
       replace hx238_1 := (HB.out.cell (World.block_lt_of_cell? w _ hx238_1)).trans hx238_1
       replace hx238_2 := (HB.out.cell (World.block_lt_of_cell? w _ hx238_2)).trans hx238_2
       replace p238 := eq_true p238
       replace q238 := eq_true q238
       go_upto_region 9 with (first | ((with_reducible refine gate_dst (N := 8) rfl ?_); refine bx_ (N := 8) (cs := #[.string (⟨#[]⟩ : ByteArray), .bool false, .string (⟨#[]⟩ : ByteArray)]) (t := 41) ?_; intro gb239 hg w19 hbox hb; have n0_ := Aside0.mk (Kd.R_below (ra_ HO_0) hb); have n1_ := Aside0.mk (below_step bel_ hb); have n2_ := Aside0.mk (hbox); have n3_ := Aside0.mk ((by rw [hg]; exact (below_size bel_) : w.heap.size ≤ gb239)); have n4_ := Aside0.mk ((by rw [hg]; exact (below_size bel_) : w.heap.size ≤ gb239)); clear HO_0; clear HB; have HO_0 := n0_; have HB := n1_; have BK239 := n2_; have GW239 := n3_; have GE239 := n4_; clear n0_ n1_ n2_ n3_ n4_; clear hb hbox hg; have hcz20_0 : w19.cell? ⟨gb239, 0, none⟩ = some (.string (⟨#[]⟩ : ByteArray)) := (blk_cell BK239.out 0).trans rfl; have hcz20_1 : w19.cell? ⟨gb239, 1, none⟩ = some (.bool false) := (blk_cell BK239.out 1).trans rfl; have hcz20_2 : w19.cell? ⟨gb239, 2, none⟩ = some (.string (⟨#[]⟩ : ByteArray)) := (blk_cell BK239.out 2).trans rfl; have hfz20_0 := blk_frozen BK239.out 0; have hfz20_1 := blk_frozen BK239.out 1; have hfz20_2 := blk_frozen BK239.out 2; obtain ⟨Ao21, co21, eo21⟩ := Kd.R_slice HO_0.out; subst eo21) | ((with_reducible refine gate_callee (f := 29) rfl ?_); refine gl_ (some 32) Tryz.func29 #[.slice Ao21 x0_1.length co21, .string ((rd_T41 l1 x24_1).f0)] ?_; (with_reducible refine (item_place.calls k1 _ _ x0_1 ((rd_T41 l1 x24_1).f0) t240 t241 _ ?side1 ?side2 A17.out).mono ?_); (case side1 => exact (Kd.R_reads' (rw_ HO_0)).2.2); (case side2 => exact (Kd.R_reads' HO_0.out).2.1); rintro e w22 ⟨rfl, hb⟩; refine ⟨_, rfl, ?_⟩; have n0_ := Aside0.mk (Kd.R_below (rw_ HO_0) hb); have n1_ := Aside0.mk (blk_below (g := gb239) (o := .cells #[.string ((rd_T41 l1 x24_1).f0), .bool ((rd_T41 l1 x24_1).f1), .string ((rd_T41 l1 x24_1).f2)] 41 (0, 0)) (bs_) hb); have n2_ := Aside0.mk (below_step bel_ hb); clear HO_0; clear BK239; clear HB; have HO_0 := n0_; have BK239 := n1_; have HB := n2_; clear n0_ n1_ n2_; (try clear hb); (try clear hb2); (try clear hk); (try clear hi)))
       (try simp only [Act.put, List.setIfInBounds_toArray, List.set_cons_zero, List.set_cons_succ])
       go_cut [35] (fun v35 wc => ∃ (kq : Nat) (x35_17 : Bool), v35 = .bool x35_17 ∧ Aside0 (item_Apply.j1 kq x0_1 t240 t241 l1 (l1.length : Int) x24_1 x35_17 ((rd_T41 l1 x24_1).f0) ((rd_T41 l1 x24_1).f1) ((rd_T41 l1 x24_1).f2) = some (r1, r2)) ∧ Aside0 (kq ≤ k1) ∧ Aside0 (Kd.R k71 71 wc w.heap.size (fun _ => True) (.slice Ao21 x0_1.length co21) x0_1) ∧ Aside0 (wc.heap[gb239]? = some (.cells #[.string ((rd_T41 l1 x24_1).f0), .bool ((rd_T41 l1 x24_1).f1), .string ((rd_T41 l1 x24_1).f2)] 41 (0, 0))) ∧ Aside0 (Below w.heap.size w wc))
       case first =>
        have H := HC18.out
        clear HC18
        by_cases c23 : t241 = true
        ·subst c23
         have H1 : (item_Apply.j1 k1 x0_1 t240 true l1 (l1.length : Int) x24_1 ((rd_T41 l1 x24_1).f1) ((rd_T41 l1 x24_1).f0) ((rd_T41 l1 x24_1).f1) ((rd_T41 l1 x24_1).f2)) = some (r1, r2) := by rw [if_pos rfl] at H; exact H
         clear H
         have H := H1
         clear H1
         have H' := Aside0.mk H
         clear H
         obtain ⟨hcz24_0, hcz24_1, hcz24_2⟩ := cl3_ BK239
         obtain ⟨hfz24_0, hfz24_1, hfz24_2⟩ := fz3_ BK239
         go_wp2
         go_meet
         case rel => exact ⟨_, ((rd_T41 l1 x24_1).f1), (by first | rfl | (simp; done) | (simp [*]; done)), H', ⟨by have := HK1.out; first | omega | exact Nat.le_refl _⟩, ⟨ra_ HO_0⟩, ⟨bk_ BK239⟩, ⟨bel_⟩⟩
        replace c23 := Bool.eq_false_iff.mpr c23
        subst c23
        have H1 : (item_Apply.j1 k1 x0_1 t240 false l1 (l1.length : Int) x24_1 false ((rd_T41 l1 x24_1).f0) ((rd_T41 l1 x24_1).f1) ((rd_T41 l1 x24_1).f2)) = some (r1, r2) := by rw [if_neg (show ¬ (false = true) by decide)] at H; exact H
        clear H
        have H := H1
        clear H1
        have H' := Aside0.mk H
        clear H
        go_wp2
        go_meet
        case rel => exact ⟨_, (false), (by first | rfl | (simp; done) | (simp [*]; done)), H', ⟨by have := HK1.out; first | omega | exact Nat.le_refl _⟩, ⟨ra_ HO_0⟩, ⟨bk_ BK239⟩, ⟨bel_⟩⟩
       case rest =>
        clear HC18
        try clear c1
        try clear c2
        try clear p2
        try clear q2
        try clear hx2
        try clear c6
        try clear c6b0
        try clear c6b1
        try clear c9
        try clear c14
        try clear c14b0
        try clear c15
        try clear c15b0
        try clear c16
        try clear c16b0
        try clear c23
        try clear p23
        try clear q23
        try clear hx23
        try clear hcz20_0
        try clear hcz20_1
        try clear hcz20_2
        try clear hcz24_0
        try clear hcz24_1
        try clear hcz24_2
        try clear hfz20_0
        try clear hfz20_1
        try clear hfz20_2
        try clear hfz24_0
        try clear hfz24_1
        try clear hfz24_2
        try clear hx238_0
        try clear hx238_1
        try clear hx238_2
        try clear p2
        try clear p238
        try clear q238
        obtain ⟨kq, x35_17, rfl, HA, HJ17, HO_0, BK239, HB⟩ := hcut
        cases kq with
        | zero => exact absurd HA.out (by simp [item_Apply.j1])
        | succ kj17 =>
         have H := HA.out
         clear HA
         simp only [item_Apply.j1] at H
         by_cases c25 : x35_17 = true
         ·subst c25
          have H1 : (if 0 ≤ t240 then (if t240 < (x0_1.length : Int) then (item_Apply.l0 kj17 (x0_1.set (t240 : Int).toNat (⟨(rd_T71 x0_1 t240).f0, ((rd_T41 l1 x24_1).f2)⟩ : S71)) l1 (l1.length : Int) (wrap64 (x24_1 + 1))) else (none)) else (none)) = some (r1, r2) := by rw [if_pos rfl] at H; exact H
          clear H
          have H := H1
          clear H1
          by_cases c26 : 0 ≤ t240
          ·rw [if_pos c26] at H
           have c26b0 : decide (0 ≤ t240) = true := decide_eq_true c26
           clear c26
           by_cases c27 : t240 < (x0_1.length : Int)
           ·rw [if_pos c27] at H
            have c27b0 : decide (t240 < (x0_1.length : Int)) = true := decide_eq_true c27
            clear c27
            obtain ⟨y242, hy242⟩ : ∃ y_ : List (S71), y_ = (x0_1.set (t240 : Int).toNat (⟨(rd_T71 x0_1 t240).f0, ((rd_T41 l1 x24_1).f2)⟩ : S71)) := ⟨_, rfl⟩
            replace H : (item_Apply.l0 kj17 y242 l1 (l1.length : Int) (wrap64 (x24_1 + 1))) = some (r1, r2) := by first | (rw [hy242]; with_reducible exact H) | (have H2_ := (Option.bind_some _ _).symm.trans H; rw [hy242]; with_reducible exact H2_) | (have H2_ := (Option.bind_some _ _).symm.trans H; with_reducible exact H2_) | with_reducible exact H | (rw [hy242]; exact H) | exact H
            have Ny242 := Aside0.mk hy242
            clear hy242
            have H' := Aside0.mk H
            clear H
            obtain ⟨hcz29_0, hcz29_1, hcz29_2⟩ := cl3_ BK239
            obtain ⟨hfz29_0, hfz29_1, hfz29_2⟩ := fz3_ BK239
            have p28 : 0 ≤ (t240 : Int) := of_decide_eq_true (by first | (with_reducible assumption) | assumption)
            have q28 : (t240 : Int) < ((x0_1.length : Int) : Int) := of_decide_eq_true (by first | (with_reducible assumption) | assumption)
            obtain ⟨go28, co28, eo28, gb28, gl28, cl28, HG28⟩ := Kd.R_form HO_0.out (by omega)
            (first | cases eo28 | (injection eo28 with ea_ en_ ec_; (first | subst ea_ | (injection ea_ with ea_; subst ea_)); subst ec_; clear en_))
            have GB28 := Aside0.mk gb28
            have GG28 := Aside0.mk HG28
            clear gb28 gl28 HG28
            obtain ⟨ce28, hcl28, hM28, hcc28, hfr28⟩ := Kd.R_elem HO_0.out z71 (t240 : Int) p28 q28
            obtain rfl := k71_openM hM28
            have hx28_0 : wc.cell? ⟨go28, (t240 : Int).toNat * 2, none⟩ = some (.string ((rd_T71 x0_1 t240).f0)) := hcc28 0 _ rfl
            have hx28_1 : wc.cell? ⟨go28, (t240 : Int).toNat * 2 + 1, none⟩ = some (.string ((rd_T71 x0_1 t240).f1)) := hcc28 1 _ rfl
            have hf28_0 : wc.frozen? ⟨go28, (t240 : Int).toNat * 2, none⟩ = false := hfr28 0
            have hf28_1 : wc.frozen? ⟨go28, (t240 : Int).toNat * 2 + 1, none⟩ = false := hfr28 1
            clear hcl28 hcc28 hfr28 hM28
            replace p28 := eq_true p28
            replace q28 := eq_true q28
            have HX30 := Aside0.mk (show Kd.R k71 71 wc w.heap.size (fun _ => True) (.slice (some ⟨go28, 0, none⟩) x0_1.length co21) x0_1 from (ra_ HO_0))
            obtain ⟨ce30, hcl30, hM30, hcc30, hfr30⟩ := Kd.R_elem HX30.out z71 (t240 : Int) (of_decide_eq_true (by first | (with_reducible assumption) | assumption)) (by have h_ : (t240 : Int) < ((x0_1.length : Int) : Int) := of_decide_eq_true (by first | (with_reducible assumption) | assumption); first | exact h_ | (have e_ := (Kd.R_reads' HO_0.out).1; omega) | simpa using h_)
            obtain rfl := k71_openM hM30
            have HP30 := Kd.R_seg HX30.out (t240 : Int) (of_decide_eq_true (by first | (with_reducible assumption) | assumption)) (by have h_ : (t240 : Int) < ((x0_1.length : Int) : Int) := of_decide_eq_true (by first | (with_reducible assumption) | assumption); first | exact h_ | (have e_ := (Kd.R_reads' HO_0.out).1; omega) | simpa using h_) (seg := [.string ((rd_T41 l1 x24_1).f2)]) (j := 1) hcl30 hcc30 (show 2 ≤ 2 from by decide) (x' := (⟨(rd_T71 x0_1 t240).f0, ((rd_T41 l1 x24_1).f2)⟩ : S71)) (k71_mkM _ _ _ (⟨(rd_T71 x0_1 t240).f0, ((rd_T41 l1 x24_1).f2)⟩ : S71) ) (fun _ hk => hk)
            have hx30_1 := hcc30 1 _ rfl
            (try simp only [show (k71).sz = 2 from rfl, Nat.mul_one, Nat.add_zero] at hx30_1)
            have hf30_1 := hfr30 1
            (try simp only [show (k71).sz = 2 from rfl, Nat.mul_one, Nat.add_zero] at hf30_1)
            clear hcl30 hcc30 hfr30 hM30
            go_wp2_with (first | ((with_reducible refine gate_store (t := 9) (p := 46) rfl ?_); refine store_event (t := 9) (p := 46) (v := ?vo_w31) (w1 := (wc.setCell ⟨go28, (t240 : Int).toNat * 2 + 1, none⟩ (.string ((rd_T41 l1 x24_1).f2)))) ?hg ?ho ?hn ?hr ?_; (case ho => rfl); (case hg => rfl); (case hn => rfl); (case hr => first | (go_simp; done) | (go_simp; rfl)); intro w31 hw; have hg : wc.grownBy w31 (some go28) := (by rw [hw]; exact HP30.2); have hp_ : Kd.R k71 71 w31 w.heap.size (fun _ => True) (.slice (some ⟨go28, 0, none⟩) x0_1.length co21) y242 := (by rw [hw, Ny242.out]; exact HP30.1); clear HP30; replace BK239 := Aside0.mk (blk_grown (bk_ BK239) hg (Kd.R_ne HO_0.out BK239.out (by decide))); replace HB := Aside0.mk ((by rw [hw]; exact below_set (HB.out) GB28.out : Below w.heap.size w w31)); replace HO_0 := Aside0.mk (hp_); clear hg hw hp_))
            go_roundg kj17
            case measure => have := HK1.out; have := HJ17.out; omega
            case rel => exact ⟨(y242), (wrap64 (x24_1 + 1)), (by first | rfl | (simp; done) | (simp [*]; done)), H', ⟨by have := HK1.out; have := HJ17.out; omega⟩, ⟨ra_ HO_0⟩, ⟨bel_⟩⟩
           rw [if_neg c27] at H
           exact absurd H (by simp)
          rw [if_neg c26] at H
          exact absurd H (by simp)
         replace c25 := Bool.eq_false_iff.mpr c25
         subst c25
         have H1 : (if t241 = true then ((slices_Delete_api_Item_api_Item.f x0_1 t240 (wrap64 (t240 + 1))).bind fun t243 => (item_Apply.l0 kj17 t243 l1 (l1.length : Int) (wrap64 (x24_1 + 1)))) else (if ((rd_T41 l1 x24_1).f1) = true then ((slices_Insert_api_Item_api_Item.f x0_1 t240 (([(⟨((rd_T41 l1 x24_1).f0), ((rd_T41 l1 x24_1).f2)⟩ : S71)] : List (S71)))).bind fun t249 => (item_Apply.l0 kj17 t249 l1 (l1.length : Int) (wrap64 (x24_1 + 1)))) else (item_Apply.l0 kj17 x0_1 l1 (l1.length : Int) (wrap64 (x24_1 + 1))))) = some (r1, r2) := by rw [if_neg (show ¬ (false = true) by decide)] at H; exact H
         clear H
         have H := H1
         clear H1
         by_cases c32 : t241 = true
         ·subst c32
          have H1 : ((slices_Delete_api_Item_api_Item.f x0_1 t240 (wrap64 (t240 + 1))).bind fun t243 => (item_Apply.l0 kj17 t243 l1 (l1.length : Int) (wrap64 (x24_1 + 1)))) = some (r1, r2) := by rw [if_pos rfl] at H; exact H
          clear H
          have H := H1
          clear H1
          replace H := Option.bind_eq_some_iff.mp H
          obtain ⟨t243, A330, H⟩ := H
          replace H : (item_Apply.l0 kj17 t243 l1 (l1.length : Int) (wrap64 (x24_1 + 1))) = some (r1, r2) := H
          have A33 := Aside0.mk A330
          clear A330
          have H' := Aside0.mk H
          clear H
          go_wp2_with (first | ((with_reducible refine gate_callee (f := 30) rfl ?_); refine gl_ (some 53) Tryz.func30 #[.slice Ao21 x0_1.length co21, .int .i64 t240, .int .i64 (wrap64 (t240 + 1))] ?_; (with_reducible refine (slices_Delete_api_Item_api_Item.calls (fun k_ => some k_ = (.slice Ao21 x0_1.length co21 : Value).ownBlock) (.slice Ao21 x0_1.length co21) x0_1 t240 (wrap64 (t240 + 1)) t243 w _ ?side1 ?side2 A33.out).mono ?_); (case side1 => repeat (first | (with_reducible first | exact HB.out | apply below_alloc | apply pw_below_drewN | apply below_drew1 | refine below_set ?_ GE239.out) | exact HB.out)); (case side2 => exact Kd.R_tight rfl HO_0.out); rintro e w34 ⟨v244, rfl, ho0, hb, hkp⟩; refine ⟨_, rfl, ?_⟩; have HO245 := Aside0.mk (Kd.R_mono (ok' := fun k_ => True) ho0 (fun k_ hk_ => trivial)); replace BK239 := Aside0.mk (blk_kept (bk_ BK239) hkp (fun hs_ => (fun e_ => (Kd.R_ne HO_0.out BK239.out (by decide)) e_) hs_)); replace HB := Aside0.mk (hb); clear HO_0; (try clear hb); (try clear hkp); (try clear ho0)))
          go_roundg kj17
          case measure => have := HK1.out; have := HJ17.out; omega
          case rel => exact ⟨(t243), (wrap64 (x24_1 + 1)), (by first | rfl | (simp; done) | (simp [*]; done)), H', ⟨by have := HK1.out; have := HJ17.out; omega⟩, ⟨ra_ HO245⟩, ⟨bel_⟩⟩
         replace c32 := Bool.eq_false_iff.mpr c32
         subst c32
         have H1 : (if ((rd_T41 l1 x24_1).f1) = true then ((slices_Insert_api_Item_api_Item.f x0_1 t240 (([(⟨((rd_T41 l1 x24_1).f0), ((rd_T41 l1 x24_1).f2)⟩ : S71)] : List (S71)))).bind fun t249 => (item_Apply.l0 kj17 t249 l1 (l1.length : Int) (wrap64 (x24_1 + 1)))) else (item_Apply.l0 kj17 x0_1 l1 (l1.length : Int) (wrap64 (x24_1 + 1)))) = some (r1, r2) := by rw [if_neg (show ¬ (false = true) by decide)] at H; exact H
         clear H
         have H := H1
         clear H1
         by_cases c35 : ((rd_T41 l1 x24_1).f1) = true
         ·rw [if_pos c35] at H
          have c35b0 : ((rd_T41 l1 x24_1).f1) = true := c35
          clear c35
          obtain ⟨y246, hy246⟩ : ∃ y_ : List (S71), y_ = (([(⟨((rd_T41 l1 x24_1).f0), ((rd_T41 l1 x24_1).f2)⟩ : S71)] : List (S71))) := ⟨_, rfl⟩
          replace H : ((slices_Insert_api_Item_api_Item.f x0_1 t240 y246).bind fun t249 => (item_Apply.l0 kj17 t249 l1 (l1.length : Int) (wrap64 (x24_1 + 1)))) = some (r1, r2) := by first | (rw [hy246]; with_reducible exact H) | (have H2_ := (Option.bind_some _ _).symm.trans H; rw [hy246]; with_reducible exact H2_) | (have H2_ := (Option.bind_some _ _).symm.trans H; with_reducible exact H2_) | with_reducible exact H | (rw [hy246]; exact H) | exact H
          have Ny246 := Aside0.mk hy246
          clear hy246
          replace H := Option.bind_eq_some_iff.mp H
          obtain ⟨t249, A360, H⟩ := H
          replace H : (item_Apply.l0 kj17 t249 l1 (l1.length : Int) (wrap64 (x24_1 + 1))) = some (r1, r2) := H
          have A36 := Aside0.mk A360
          clear A360
          have H' := Aside0.mk H
          clear H
          obtain ⟨hcz37_0, hcz37_1, hcz37_2⟩ := cl3_ BK239
          obtain ⟨hfz37_0, hfz37_1, hfz37_2⟩ := fz3_ BK239
          go_wp2_with (first | ((with_reducible refine gate_dst (N := 64) rfl ?_); refine Kd.R_lit k71 _ 71 ?hg (N := 64) ?hd (xs := ([(⟨((rd_T41 l1 x24_1).f0), ((rd_T41 l1 x24_1).f2)⟩ : S71)] : List (S71))) (inner := [.string ((rd_T41 l1 x24_1).f0), .string ((rd_T41 l1 x24_1).f2)]) (ok := fun _ => True) (okp := fun _ => True) ?hr ?hp (fun _ hk => hk) trivial (Below.refl _ _) (Nat.le_refl _) (by simp) ?_; (case hd => rfl); (case hg => rfl); (case hr => first | (go_simp; done) | (go_simp; rfl)); (case hp => exact (Reps.c2 (show Kd.M k71 _ _ _ (⟨((rd_T41 l1 x24_1).f0), ((rd_T41 l1 x24_1).f2)⟩ : S71) [.string ((rd_T41 l1 x24_1).f0), .string ((rd_T41 l1 x24_1).f2)] from (k71_mkM _ _ _ (⟨((rd_T41 l1 x24_1).f0), ((rd_T41 l1 x24_1).f2)⟩ : S71) )) (Reps.none _ _))); intro v247 w38 ho39 hb hg_ hnew_; clear hg_ hnew_; (first | rw [← Ny246.out] at ho39 | (simp only [Int.reduceToNat] at ho39; rw [← Ny246.out] at ho39)); have HO248 := Aside0.mk (Kd.R_lower (Kd.R_new' ho39 (Kd.R_lt (ra_ HO_0))) (below_size bel_)); replace HO_0 := Aside0.mk (Kd.R_elder' (ra_ HO_0) (Kd.R_base ho39) hb); replace BK239 := kb_ BK239 hb; replace HB := hb_ hb; clear hb ho39; obtain ⟨Ao40, co40, eo40⟩ := Kd.R_slice HO248.out; subst eo40) | ((with_reducible refine gate_callee (f := 31) rfl ?_); refine gl_ (some 65) Tryz.func31 #[.slice Ao21 x0_1.length co21, .int .i64 t240, .slice Ao40 y246.length co40] ?_; (with_reducible refine (slices_Insert_api_Item_api_Item.calls (fun k_ => some k_ = (.slice Ao21 x0_1.length co21 : Value).ownBlock) (.slice Ao21 x0_1.length co21) x0_1 t240 _ _ y246 t249 w _ ?side1 ?side2 ?side3 ?side4 ?side5 A36.out).mono ?_); (case side1 => repeat (first | (with_reducible first | exact HB.out | apply below_alloc | apply pw_below_drewN | apply below_drew1 | refine below_set ?_ GE239.out) | exact HB.out)); (case side2 => exact Kd.R_tight rfl HO_0.out); (case side3 => exact Kd.C_kept_own (HO248.out) (fun k_ hk_ hs_ => (hk_.2) hs_)); (case side4 => exact (Kd.R_reads' HO248.out).2.1); (case side5 => exact ⟨_, _, HO248.out⟩); rintro e w41 ⟨v250, rfl, ho0, hb, hkp⟩; refine ⟨_, rfl, ?_⟩; have HO251 := Aside0.mk (Kd.R_mono (ok' := fun k_ => some k_ ≠ (.slice Ao40 y246.length co40 : Value).ownBlock) ho0 (fun k_ hk_ => Or.elim hk_ (fun hs_ => fun e_ => (((HO248.out).1 k_ e_.symm).2) hs_) (fun hn_ => (Kd.fresh' (Kd.R_lt (ra_ HO248)) k_ hn_)))); replace BK239 := Aside0.mk (blk_kept (bk_ BK239) hkp (fun hs_ => (fun e_ => (Kd.R_ne HO_0.out BK239.out (by decide)) e_) hs_)); replace HO248 := Aside0.mk (Kd.R_mono (ok' := fun k_ => some k_ ≠ (v250 : Value).ownBlock) (Kd.R_keptB (HO248.out) hkp (fun k_ hk_ hs_ => (hk_.2) hs_)) (fun k_ hk_ => fun e_ => Or.elim (ho0.1 k_ e_.symm) (fun hs_ => hk_.2.1 hs_) (fun hn_ => Nat.not_le.2 hk_.2.2 hn_))); replace HB := Aside0.mk (hb); clear HO_0; (try clear hb); (try clear hkp); (try clear ho0)))
          go_roundg kj17
          case measure => have := HK1.out; have := HJ17.out; omega
          case rel => exact ⟨(t249), (wrap64 (x24_1 + 1)), (by first | rfl | (simp; done) | (simp [*]; done)), H', ⟨by have := HK1.out; have := HJ17.out; omega⟩, ⟨by (with_reducible repeat (first | apply Kd.R_alloc | apply Kd.R_drewN | apply Kd.R_drew)); exact Kd.R_mono HO251.out (fun _ hk => trivial)⟩, ⟨bel_⟩⟩
         rw [if_neg c35] at H
         have c35b0 : ((rd_T41 l1 x24_1).f1) = false := by simpa using c35
         clear c35
         have H' := Aside0.mk H
         clear H
         obtain ⟨hcz42_0, hcz42_1, hcz42_2⟩ := cl3_ BK239
         obtain ⟨hfz42_0, hfz42_1, hfz42_2⟩ := fz3_ BK239
         go_wp2
         go_roundg kj17
         case measure => have := HK1.out; have := HJ17.out; omega
         case rel => exact ⟨(x0_1), (wrap64 (x24_1 + 1)), (by first | rfl | (simp; done) | (simp [*]; done)), H', ⟨by have := HK1.out; have := HJ17.out; omega⟩, ⟨ra_ HO_0⟩, ⟨bel_⟩⟩
      rw [if_neg c16] at H
      exact absurd H (by simp)
     rw [if_neg c15] at H
     exact absurd H (by simp)
    rw [if_neg c14] at H
    have c14b0 : decide (x24_1 < (l1.length : Int)) = false := decide_eq_false c14
    clear c14
    simp only [Option.some.injEq, Prod.mk.injEq] at H
    obtain ⟨rfl, rfl⟩ := H
    go_wp2
    go_ret2
    exact ⟨_, by first | rfl | (simp [errW_none, errW_some] <;> rfl) | (simp [*, errW_none, errW_some] <;> rfl), by (with_reducible repeat (first | apply Kd.R_alloc | apply Kd.R_drewN | apply Kd.R_drew)); exact HO_0.out, bel_⟩
 rw [if_neg c6] at H
 have c6b0 : (t234 == 0) = false := beq_eq_false_iff_ne.mpr c6
 have c6b1 : (t234 != 0) = true := bne_iff_ne.mpr c6
 simp only [Option.some.injEq, Prod.mk.injEq] at H
 obtain ⟨rfl, rfl⟩ := H
 go_enter Tryz.func9, Tryz.ntmps9
 go_wp2_with (first | ((with_reducible refine gate_callee (f := 26) rfl ?_); refine gl_ (some 12) Tryz.func26 #[.slice A0 l0.length c0] ?_; (with_reducible refine (item_Check.calls k _ _ l0 t229 _ ?side1 ?side2 A3.out).mono ?_); (case side1 => repeat (first | exact HR0.out | (with_reducible refine Kd.C_alloc ?_ _) | (with_reducible refine Kd.C_drewN ?_ _) | (with_reducible refine Kd.C_drew ?_))); (case side2 => exact HC0.out); rintro e w43 ⟨rfl, hb⟩; refine ⟨_, rfl, ?_⟩; replace HB := hb_ hb; (try clear hb); (try clear hb2); (try clear hk); (try clear hi)) | ((with_reducible refine gate_callee (f := 27) rfl ?_); refine gl_ (some 14) Tryz.func27 #[.slice A1 l1.length c1] ?_; (with_reducible refine (item_CheckChanges.calls k _ _ l1 t230 _ ?side1 ?side2 A4.out).mono ?_); (case side1 => exact cb_ HR1); (case side2 => exact HC1.out); rintro e w44 ⟨rfl, hb⟩; refine ⟨_, rfl, ?_⟩; replace HB := hb_ hb; (try clear hb); (try clear hb2); (try clear hk); (try clear hi)) | ((with_reducible refine gate_dst (N := 15) rfl ?_); refine Kd.R_lit (Kd.int .i64) _ 25 ?hg (N := 15) ?hd (xs := ([t229, t230] : List Int)) (inner := [.int .i64 t229, .int .i64 t230]) (ok := fun _ => True) (okp := fun _ => True) ?hr ?hp (fun _ hk => hk) trivial (Below.refl _ _) (Nat.le_refl _) (by simp) ?_; (case hd => rfl); (case hg => rfl); (case hr => first | (go_simp; done) | (go_simp; rfl)); (case hp => exact (Reps.one (show Kd.M (Kd.int .i64) _ _ _ t229 [.int .i64 t229] from rfl) (Reps.one (show Kd.M (Kd.int .i64) _ _ _ t230 [.int .i64 t230] from rfl) (Reps.none _ _)))); intro v232 w45 ho46 hb hg_ hnew_; clear hg_ hnew_; (first | rw [← Ny231.out] at ho46 | (simp only [Int.reduceToNat] at ho46; rw [← Ny231.out] at ho46)); have HO233 := rl_ ho46; replace HB := hb_ hb; clear hb ho46; obtain ⟨Ao47, co47, eo47⟩ := Kd.R_slice HO233.out; subst eo47) | ((with_reducible refine gate_callee (f := 25) rfl ?_); refine gl_ (some 16) Tryz.func25 #[.slice Ao47 y231.length co47] ?_; (with_reducible refine (cmp_Or_api_Errno.calls k _ _ y231 t234 _ ?side1 ?side2 A5.out).mono ?_); (case side1 => exact cr_ HO233); (case side2 => exact (Kd.R_reads' HO233.out).2.1); rintro e w' ⟨rfl, ⟨nd, rfl⟩⟩; refine ⟨_, rfl, ?_⟩))
 go_ret2
 exact ⟨_, by first | rfl | (simp [errW_none, errW_some] <;> rfl) | (simp [*, errW_none, errW_some] <;> rfl), by first | exact Kd.R_nil _ _ _ _ _ | exact Kd.N_nil _ _ _ _ _ | exact Kd.V_nil _ _ _ _ _ | exact Kd.Q_nil _ _ _ _ _ | exact Kd.S_nil _ _ _ _ _, bel_⟩
end Go.Proofs.YthbljhmjppjcjaaGreatDoor.Z
end

section
/- What Apply and Diff come to. -/
namespace Go.Proofs.YthbljhmjppjcjaaGreatDoor.Z
open Go.RowKit Go.Proofs.YthbljhmjppjcjaaGreatDoorW.PrintWords Go.Proofs.YthbljhmjppjcjaaGreatDoorW.PrintLast
set_option linter.unusedVariables false
set_option linter.unusedSimpArgs false
theorem itCheckC_l0 (l : List Ch) (hl : l.length ≤ 4398046511104) : ∀ d i : Nat, l.length = i + d → Ev (fun k => item_CheckChanges.l0 k l (l.length : Int) (i : Int)) (ckS ((l.drop i).all okc)) := by
  intro d
  induction d with
  | zero =>
    intro i hi
    refine Ev.step (fun k => by rw [item_CheckChanges.l0]) (Ev.ifn (by omega) (Ev.const ?_))
    rw [List.drop_of_length_le (by omega)]; rfl
  | succ d ih =>
    intro i hi
    have hlt : i < l.length := by omega
    have ih := ih (i + 1) (by omega)
    rw [List.drop_eq_getElem_cons hlt, List.all_cons]
    refine Ev.step (fun k => by rw [item_CheckChanges.l0]) (Ev.ifp (by omega) (Ev.ifp (by omega) (Ev.ifp (by omega) (Ev.bindc (by rw [rdc_get l i hlt]; exact rightc_f _) ?_))))
    rw [rdc_get l i hlt, w64 (by omega) (by omega)]
    unfold okc at ih ⊢
    cases hr : (okK (l[i]).f0 && decide ((l[i]).f2.size ≤ 160)) with
    | false => exact Ev.ifn (by simp) (Ev.const rfl)
    | true =>
      refine Ev.ifp rfl (Ev.ite (fun h => Ev.val ih ?_) (fun h => Ev.ite (fun h2 => Ev.val ih ?_) (fun h2 => Ev.const ?_)))
      · simp [h]
      · simp [h2]
      · simp [h, h2, ckS]
theorem itCheckC (l : List Ch) (hl : l.length ≤ 4398046511104) : Ev (fun k => item_CheckChanges.f k l) (ckS (okC l)) := itCheckC_l0 l hl l.length 0 (by omega)
theorem or_f (x y : Int) : Ev (fun k => cmp_Or_api_Errno.f k [x, y]) (if x = 0 then y else x) := by
  unfold cmp_Or_api_Errno.f
  have r0 : rd [x, y] 0 = x := rfl
  have r1 : rd [x, y] 1 = y := rfl
  have e1 : wrap64 (0 + 1) = 1 := (w64 (by omega) (by omega)).trans rfl
  have e2 : wrap64 (1 + 1) = 2 := (w64 (by omega) (by omega)).trans rfl
  refine Ev.step (fun k => by rw [cmp_Or_api_Errno.l0]) (Ev.ifp (by simp) (Ev.ifp (by omega) (Ev.ifp (by simp) ?_)))
  rw [r0, e1]
  refine Ev.ite (fun h => ?_) (fun h => Ev.const (by rw [if_neg h]))
  refine Ev.step (fun k => by rw [cmp_Or_api_Errno.l0]) (Ev.ifp (by simp) (Ev.ifp (by omega) (Ev.ifp (by simp) ?_)))
  rw [r1, e2, if_pos h]
  refine Ev.ite (fun h2 => ?_) (fun h2 => Ev.const rfl)
  refine Ev.step (fun k => by rw [cmp_Or_api_Errno.l0]) (Ev.ifn (by simp) (Ev.const ?_))
  rw [h2]
theorem or_ck (a b : Bool) : Ev (fun k => cmp_Or_api_Errno.f k [ckS a, ckS b]) (ckS (a && b)) := Ev.val (or_f _ _) (by cases a <;> cases b <;> rfl)
-- Apply
def aplS (l : List It) (cs : List Ch) : List It × Int := if (okL l && okC cs) = true then (apl l cs, 0) else ([], 4)
theorem lo_take (l : List It) (k : List UInt8) : l.take (lo l k).length = lo l k := by
  have := congrArg (List.take (lo l k).length) (lo_up l k)
  rw [List.take_left] at this
  exact this.symm
theorem hi_drop {l : List It} (ha : Asc l) {k : List UInt8} (hf : fnd l k = true) : l.drop ((lo l k).length + 1) = hi l k := by
  obtain ⟨h, _, hp⟩ := at_fnd ha hf
  have := congrArg (List.drop ((lo l k).length + 1)) hp
  rw [List.drop_left' (by simp)] at this
  exact this
theorem hi_drop' {l : List It} (ha : Asc l) {k : List UInt8} (hf : fnd l k = false) : l.drop (lo l k).length = hi l k := by
  have := congrArg (List.drop (lo l k).length) (not_fnd ha hf)
  rw [List.drop_left] at this
  exact this
theorem put_set {l : List It} (ha : Asc l) {c : Ch} (hf : fnd l (ck c) = true) (hh : c.f1 = true) (h : (lo l (ck c)).length < l.length) : l.set (lo l (ck c)).length ⟨(l[(lo l (ck c)).length]).f0, c.f2⟩ = put l c := by
  obtain ⟨_, hk, hp⟩ := at_fnd ha hf
  rw [List.set_eq_take_append_cons_drop, if_pos h, lo_take, hi_drop ha hf]
  have e : (l[(lo l (ck c)).length]).f0 = c.f0 := bytes_inj hk
  rw [e]
  unfold put new_
  rw [if_pos hh, List.append_assoc]; rfl
theorem put_del {l : List It} (ha : Asc l) {c : Ch} (hf : fnd l (ck c) = true) (hh : c.f1 = false) : l.take (lo l (ck c)).length ++ l.drop ((lo l (ck c)).length + 1) = put l c := by
  rw [lo_take, hi_drop ha hf]
  unfold put new_
  rw [hh]; simp
theorem put_ins {l : List It} (ha : Asc l) {c : Ch} (hf : fnd l (ck c) = false) (hh : c.f1 = true) : l.take (lo l (ck c)).length ++ [⟨c.f0, c.f2⟩] ++ l.drop (lo l (ck c)).length = put l c := by
  rw [lo_take, hi_drop' ha hf]
  unfold put new_
  rw [if_pos hh]
theorem put_non {l : List It} (ha : Asc l) {c : Ch} (hf : fnd l (ck c) = false) (hh : c.f1 = false) : l = put l c := by
  unfold put new_
  rw [hh]
  simpa using not_fnd ha hf
theorem apl_l0 (cs : List Ch) (hcs : cs.length ≤ 4398046511000) : ∀ d i : Nat, cs.length = i + d → ∀ l : List It, okL l = true → okC (cs.drop i) = true → l.length + d ≤ 4398046511000 →
    Ev (fun k => item_Apply.l0 k l cs (cs.length : Int) (i : Int)) (apl l (cs.drop i), 0) := by
  intro d
  induction d with
  | zero =>
    intro i hi l ho hoc hb
    refine Ev.step (fun k => by rw [item_Apply.l0]) (Ev.ifn (by omega) (Ev.const ?_))
    rw [List.drop_of_length_le (by omega)]; rfl
  | succ d ih =>
    intro i hi l ho hoc hb
    have hlt : i < cs.length := by omega
    have ha := ((okL_iff l).1 ho).2
    obtain ⟨c, hc⟩ : ∃ c, c = cs[i] := ⟨_, rfl⟩
    rw [List.drop_eq_getElem_cons hlt, ← hc] at hoc ⊢
    unfold okC at hoc
    rw [List.all_cons, Bool.and_eq_true] at hoc
    have hpl := put_len l c
    have hpo := put_ok ho hoc.1
    have hlp := lo_le l (ck c)
    -- what is done here, then the rest
    have go : ∀ r : List It, r = put l c → Ev (fun k => item_Apply.l0 k r cs (cs.length : Int) (wrap64 ((i : Int) + 1))) (apl l (c :: cs.drop (i + 1)), 0) := by
      rintro r rfl
      rw [w64 (by omega) (by omega)]
      exact ih (i + 1) (by omega) (put l c) hpo hoc.2 (by omega)
    refine Ev.step (fun k => by rw [item_Apply.l0]) (Ev.ifp (by omega) (Ev.ifp (by omega) (Ev.ifp (by omega) ?_)))
    rw [rdc_get cs i hlt, ← hc]
    have hpf : Ev (fun k => item_place.f k l c.f0) (((lo l (ck c)).length : Int), fnd l (ck c)) := place_f ha (by omega) c.f0
    refine Ev.bind hpf ?_
    clear hpf
    have hw : wrap64 (((lo l (ck c)).length : Int) + 1) = ((lo l (ck c)).length : Int) + 1 := w64 (by omega) (by omega)
    cases hf : fnd l (ck c) with
    | true =>
      refine Ev.ifp rfl (Ev.step (fun k => by rw [item_Apply.j1]) ?_)
      obtain ⟨hp, _, _⟩ := at_fnd ha hf
      cases hh : c.f1 with
      | true =>
        refine Ev.ifp rfl (Ev.ifp (by simp only; omega) (Ev.ifp (by simp only; omega) (go _ ?_)))
        simp only
        rw [rd_get l _ hp, Int.toNat_natCast]
        exact put_set ha hf hh hp
      | false =>
        refine Ev.ifn (by simp) (Ev.ifp rfl (Ev.bindc ?_ (go _ (put_del ha hf hh))))
        simp only
        unfold slices_Delete_api_Item_api_Item.f
        rw [hw, if_pos ⟨by omega, by omega, rfl⟩, Int.toNat_natCast]
    | false =>
      refine Ev.ifn (by simp) (Ev.step (fun k => by rw [item_Apply.j1]) ?_)
      refine Ev.ifn (by simp) (Ev.ifn (by simp) ?_)
      cases hh : c.f1 with
      | true =>
        refine Ev.ifp rfl (Ev.bindc ?_ (go _ (put_ins ha hf hh)))
        simp only
        unfold slices_Insert_api_Item_api_Item.f
        rw [if_pos ⟨by omega, by omega, rfl, by omega⟩, Int.toNat_natCast]
      | false => exact Ev.ifn (by simp) (go _ (put_non ha hf hh))
theorem itApply (l : List It) (cs : List Ch) (hb : l.length + cs.length ≤ 4398046511000) : Ev (fun k => item_Apply.f k l cs) (aplS l cs) := by
  unfold item_Apply.f
  refine Ev.bind (itCheck l (by omega)) (Ev.bind (itCheckC cs (by omega)) (Ev.bind (or_ck _ _) ?_))
  unfold aplS
  by_cases h : (okL l && okC cs) = true
  · rw [h, if_pos rfl]
    rw [Bool.and_eq_true] at h
    refine Ev.ifp rfl (Ev.bindc (show slices_Clone_api_Item_api_Item.f l = some l by unfold slices_Clone_api_Item_api_Item.f; rw [if_pos (by omega)]) ?_)
    exact apl_l0 cs (by omega) cs.length 0 (by omega) l h.1 (by simpa using h.2) hb
  · have h' : (okL l && okC cs) = false := by simpa using h
    rw [h']
    exact Ev.ifn (by decide) (Ev.const rfl)
-- Diff
end Go.Proofs.YthbljhmjppjcjaaGreatDoor.Z
end

section
namespace Go.Proofs.YthbljhmjppjcjaaGreatDoor.Z
open Go.RowKit Go.Proofs.YthbljhmjppjcjaaGreatDoorW.PrintWords Go.Proofs.YthbljhmjppjcjaaGreatDoorW.PrintLast Go.Proofs.YthbljhmjppjcjaaGreatDoorW.PrintMore
attribute [local go_sem] max2_int min2_int max_two min_two max_three min_three max_four min_four   -- for this text's walks alone
set_option linter.unusedVariables false
set_option linter.unusedSimpArgs false
def data_open_1.f (k : Nat) (a0_0 : ByteArray) (a0_1 : ByteArray) : Option (Bool) := (inode_Parse.f k a0_0).bind fun bt183 => (some (bt183.2.2.2.2 != 0))
theorem data_open_1.mono : ∀ a0 a1 k, LeO (data_open_1.f k a0 a1) (data_open_1.f (k + 1) a0 a1) := by
 intro a0 a1 k
 unfold data_open_1.f
 repeat' first
   | (with_reducible exact inode_Parse.mono _ _)
   | (with_reducible exact LeO.refl _)
   | (with_reducible exact LeO.none _)
   | (with_reducible refine LeO.ite ?_ ?_)
   | (with_reducible refine LeO.bind ?_ (fun _ => ?_))
   | exact inode_Parse.mono _ _
   | exact LeO.none _
   | refine LeO.ite ?_ ?_
   | refine LeO.bind ?_ (fun _ => ?_)
set_option maxHeartbeats 8000000 in
set_option maxRecDepth 100000 in
theorem data_open_1.calls (k : Nat) (a0_0 : ByteArray) (a0_1 : ByteArray) (r : Bool) (w : World) (h : data_open_1.f k a0_0 a0_1 = some r) :
  Calls Tryz.prog 43 #[.agg #[.string a0_0, .string a0_1]] w fun e w' => e = .returned (.bool r) ∧ Below w.heap.size w w' := by
 have hu71 := Tryz.underlying71
 have hu37 := Tryz.underlying37
 have HB := Aside0.mk (Below.refl w.heap.size w)
 have H : ((inode_Parse.f k a0_0).bind fun bt183 => (some (bt183.2.2.2.2 != 0))) = some r := h
 clear h
 replace H := Option.bind_eq_some_iff.mp H
 obtain ⟨⟨t183, t184, t185, t186, t187⟩, A20, H⟩ := H
 replace H : (some (t187 != 0)) = some r := H
 have A2 := Aside0.mk A20
 clear A20
 obtain rfl := Option.some.inj H
 go_enter Tryz.func43, Tryz.ntmps43
 go_wp2_with (first | ((with_reducible refine gate_dst (N := 1) rfl ?_); refine bx_ (N := 1) (cs := #[.string a0_0, .string a0_1]) (t := 71) ?_; intro gb182 hg w3 hbox hb; have BK182 := Aside0.mk (hbox); have GW182 := ge_ hg; have GE182 := ge_ hg; replace HB := hb_ hb; clear hb hbox hg; obtain ⟨hcz4_0, hcz4_1⟩ := cl2_ BK182; obtain ⟨hfz4_0, hfz4_1⟩ := fz2_ BK182) | ((with_reducible refine gate_callee (f := 44) rfl ?_); refine gl_ (some 8) Tryz.func44 #[.string a0_0] ?_; (with_reducible refine (inode_Parse.calls k a0_0 t183 t184 t185 t186 t187 _ A2.out).mono ?_); rintro e w5 ⟨rfl, hb⟩; refine ⟨_, rfl, ?_⟩; replace BK182 := kb_ BK182 hb; replace HB := hb_ hb; (try clear hb); (try clear hb2); (try clear hk); (try clear hi)) | ((with_reducible refine gate_dst (N := 3) rfl ?_); refine bx_ (N := 3) (cs := #[.int .u8 0, .int .u32 0, .string (⟨#[]⟩ : ByteArray), .int .u32 0]) (t := 37) ?_; intro gb188 hg w6 hbox hb; have BK188 := Aside0.mk (hbox); have GW188 := ge_ hg; have GE188 := ge_ hg; have NB182_188 := nl_ BK182 hg; have NB188_182 := ng_ BK182 hg; replace BK182 := kb_ BK182 hb; replace HB := hb_ hb; clear hb hbox hg; have hnb7 := NB188_182.out; have hnc7 := NB182_188.out; obtain ⟨hcz8_0, hcz8_1, hcz8_2, hcz8_3⟩ := cl4_ BK188; obtain ⟨hfz8_0, hfz8_1, hfz8_2, hfz8_3⟩ := fz4_ BK188))
 go_ret
 exact ⟨by first | rfl | (simp [errW_none, errW_some] <;> rfl) | (simp [*, errW_none, errW_some] <;> rfl), bel_⟩
def slices_IndexFunc_api_Item_api_Item_fn43.l0 : Nat → List (S71) → Int → Int → Option (Int)
 | 0, _, _, _ => none
 | k + 1, x0, x7, x8 => if x8 < x7 then (if 0 ≤ x8 then (if x8 < (x0.length : Int) then ((data_open_1.f k ((rd_T71 x0 x8).f0) ((rd_T71 x0 x8).f1)).bind fun t190 => (if t190 = true then (some x8) else (slices_IndexFunc_api_Item_api_Item_fn43.l0 k x0 x7 (wrap64 (x8 + 1))))) else (none)) else (none)) else (some (-1))
def slices_IndexFunc_api_Item_api_Item_fn43.f (k : Nat) (l0 : List (S71))  : Option (Int) := slices_IndexFunc_api_Item_api_Item_fn43.l0 k l0 (l0.length : Int) 0
theorem slices_IndexFunc_api_Item_api_Item_fn43.mono_l : ∀ k, (∀ y0 y1 y2, LeO (slices_IndexFunc_api_Item_api_Item_fn43.l0 k y0 y1 y2) (slices_IndexFunc_api_Item_api_Item_fn43.l0 (k + 1) y0 y1 y2))
 | 0 => fun _ _ _ r h => by simp [slices_IndexFunc_api_Item_api_Item_fn43.l0] at h
 | k + 1 => by
  have ih0 := slices_IndexFunc_api_Item_api_Item_fn43.mono_l k
  ·intro y0 y1 y2
   unfold slices_IndexFunc_api_Item_api_Item_fn43.l0
   repeat' first
   | (with_reducible exact ih0 _ _ _)
   | (with_reducible exact data_open_1.mono _ _ _)
   | (with_reducible exact LeO.refl _)
   | (with_reducible exact LeO.none _)
   | (with_reducible refine LeO.ite ?_ ?_)
   | (with_reducible refine LeO.bind ?_ (fun _ => ?_))
   | exact ih0 _ _ _
   | exact data_open_1.mono _ _ _
   | exact LeO.none _
   | refine LeO.ite ?_ ?_
   | refine LeO.bind ?_ (fun _ => ?_)
theorem slices_IndexFunc_api_Item_api_Item_fn43.mono : ∀ a0 k, LeO (slices_IndexFunc_api_Item_api_Item_fn43.f k a0) (slices_IndexFunc_api_Item_api_Item_fn43.f (k + 1) a0) := by
 intro a0 k
 have ih0 := slices_IndexFunc_api_Item_api_Item_fn43.mono_l k
 unfold slices_IndexFunc_api_Item_api_Item_fn43.f
 repeat' first
   | (with_reducible exact ih0 _ _ _)
   | (with_reducible exact data_open_1.mono _ _ _)
   | (with_reducible exact LeO.refl _)
   | (with_reducible exact LeO.none _)
   | (with_reducible refine LeO.ite ?_ ?_)
   | (with_reducible refine LeO.bind ?_ (fun _ => ?_))
   | exact ih0 _ _ _
   | exact data_open_1.mono _ _ _
   | exact LeO.none _
   | refine LeO.ite ?_ ?_
   | refine LeO.bind ?_ (fun _ => ?_)
set_option maxHeartbeats 8000000 in
set_option maxRecDepth 100000 in
theorem slices_IndexFunc_api_Item_api_Item_fn43.calls (k : Nat) (A0 : Option Addr) (c0 : Nat) (l0 : List (S71))  (r : Int) (w : World) (hr0 : Kd.C k71 w A0 l0.length l0) (hc0 : l0.length ≤ c0) (h : slices_IndexFunc_api_Item_api_Item_fn43.f k l0 = some r) :
  Calls Tryz.prog 67 #[.slice A0 l0.length c0, .func (.func 43) #[] #[]] w fun e w' => e = .returned (.int .i64 r) ∧ Below w.heap.size w w' := by
 have hu71 := Tryz.underlying71
 have HR0 := Aside0.mk hr0
 have HC0 := Aside0.mk hc0
 clear hr0 hc0
 have HB := Aside0.mk (Below.refl w.heap.size w)
 have H : (slices_IndexFunc_api_Item_api_Item_fn43.l0 k l0 (l0.length : Int) 0) = some r := h
 clear h
 have H' := Aside0.mk H
 clear H
 go_enter Tryz.func67, Tryz.ntmps67
 go_wp2
 go_loopg [8] k (fun kq v8 w' => ∃ (x8_1 : Int), v8 = .int .i64 x8_1 ∧ Aside0 (slices_IndexFunc_api_Item_api_Item_fn43.l0 kq l0 (l0.length : Int) x8_1 = some r) ∧ Aside0 (kq ≤ k) ∧ Aside0 (Below w.heap.size w w'))
 case atStart => exact ⟨(0), (by first | rfl | (simp; done) | (simp [*]; done)), H', ⟨Nat.le_refl _⟩, ⟨bel_⟩⟩
 case round =>
  clear H'
  try clear p2
  obtain ⟨x8_1, rfl, HA, HK1, HB⟩ := hrel
  cases gk with
  | zero => exact absurd HA.out (by simp [slices_IndexFunc_api_Item_api_Item_fn43.l0])
  | succ k1 =>
   have H := HA.out
   clear HA
   simp only [slices_IndexFunc_api_Item_api_Item_fn43.l0] at H
   by_cases c3 : x8_1 < (l0.length : Int)
   ·rw [if_pos c3] at H
    have c3b0 : decide (x8_1 < (l0.length : Int)) = true := decide_eq_true c3
    clear c3
    by_cases c4 : 0 ≤ x8_1
    ·rw [if_pos c4] at H
     have c4b0 : decide (0 ≤ x8_1) = true := decide_eq_true c4
     clear c4
     by_cases c5 : x8_1 < (l0.length : Int)
     ·rw [if_pos c5] at H
      have c5b0 : decide (x8_1 < (l0.length : Int)) = true := decide_eq_true c5
      clear c5
      replace H := Option.bind_eq_some_iff.mp H
      obtain ⟨t190, A60, H⟩ := H
      replace H : (if t190 = true then (some x8_1) else (slices_IndexFunc_api_Item_api_Item_fn43.l0 k1 l0 (l0.length : Int) (wrap64 (x8_1 + 1)))) = some r := H
      have A6 := Aside0.mk A60
      clear A60
      by_cases c7 : t190 = true
      ·subst c7
       have H1 : (some x8_1) = some r := by rw [if_pos rfl] at H; exact H
       clear H
       have H := H1
       clear H1
       obtain rfl := Option.some.inj H
       have p189 : 0 ≤ (x8_1 : Int) := of_decide_eq_true (by first | (with_reducible assumption) | assumption)
       have q189 : x8_1 < (l0.length : Int) := of_decide_eq_true (by first | (with_reducible assumption) | assumption)
       obtain ⟨ad189, e189, hx189_0, hx189_1⟩ := at_T71 HR0.out x8_1 p189 q189
       cases e189
       replace hx189_0 := (HB.out.cell (World.block_lt_of_cell? w _ hx189_0)).trans hx189_0
       replace hx189_1 := (HB.out.cell (World.block_lt_of_cell? w _ hx189_1)).trans hx189_1
       replace p189 := eq_true p189
       replace q189 := eq_true q189
       go_wp2_with (first | ((with_reducible refine gate_dyn rfl ?_); refine goesD_ (some 16) rfl rfl Tryz.func43 (by kernel_rfl) rfl #[.agg #[.string ((rd_T71 l0 x8_1).f0), .string ((rd_T71 l0 x8_1).f1)]] rfl rfl (by (try simp only [List.map_toArray, List.map_cons, List.map_nil]); first | done | rfl | (simp only [List.length_drop, List.length_take]; rfl)) ?_; (with_reducible refine (data_open_1.calls k1 ((rd_T71 l0 x8_1).f0) ((rd_T71 l0 x8_1).f1) true _ A6.out).mono ?_); rintro e w8 ⟨rfl, hb⟩; refine ⟨_, rfl, ?_⟩; replace HB := hb_ hb; (try clear hb); (try clear hb2); (try clear hk); (try clear hi)))
       go_ret
       exact ⟨by first | rfl | (simp [errW_none, errW_some] <;> rfl) | (simp [*, errW_none, errW_some] <;> rfl), bel_⟩
      replace c7 := Bool.eq_false_iff.mpr c7
      subst c7
      have H1 : (slices_IndexFunc_api_Item_api_Item_fn43.l0 k1 l0 (l0.length : Int) (wrap64 (x8_1 + 1))) = some r := by rw [if_neg (show ¬ (false = true) by decide)] at H; exact H
      clear H
      have H := H1
      clear H1
      have H' := Aside0.mk H
      clear H
      have p189 : 0 ≤ (x8_1 : Int) := of_decide_eq_true (by first | (with_reducible assumption) | assumption)
      have q189 : x8_1 < (l0.length : Int) := of_decide_eq_true (by first | (with_reducible assumption) | assumption)
      obtain ⟨ad189, e189, hx189_0, hx189_1⟩ := at_T71 HR0.out x8_1 p189 q189
      cases e189
      replace hx189_0 := (HB.out.cell (World.block_lt_of_cell? w _ hx189_0)).trans hx189_0
      replace hx189_1 := (HB.out.cell (World.block_lt_of_cell? w _ hx189_1)).trans hx189_1
      replace p189 := eq_true p189
      replace q189 := eq_true q189
      go_wp2_with (first | ((with_reducible refine gate_dyn rfl ?_); refine goesD_ (some 16) rfl rfl Tryz.func43 (by kernel_rfl) rfl #[.agg #[.string ((rd_T71 l0 x8_1).f0), .string ((rd_T71 l0 x8_1).f1)]] rfl rfl (by (try simp only [List.map_toArray, List.map_cons, List.map_nil]); first | done | rfl | (simp only [List.length_drop, List.length_take]; rfl)) ?_; (with_reducible refine (data_open_1.calls k1 ((rd_T71 l0 x8_1).f0) ((rd_T71 l0 x8_1).f1) false _ A6.out).mono ?_); rintro e w9 ⟨rfl, hb⟩; refine ⟨_, rfl, ?_⟩; replace HB := hb_ hb; (try clear hb); (try clear hb2); (try clear hk); (try clear hi)))
      go_roundg k1
      case measure => have := HK1.out; omega
      case rel => exact ⟨(wrap64 (x8_1 + 1)), (by first | rfl | (simp; done) | (simp [*]; done)), H', ⟨by have := HK1.out; omega⟩, ⟨bel_⟩⟩
     rw [if_neg c5] at H
     exact absurd H (by simp)
    rw [if_neg c4] at H
    exact absurd H (by simp)
   rw [if_neg c3] at H
   have c3b0 : decide (x8_1 < (l0.length : Int)) = false := decide_eq_false c3
   clear c3
   obtain rfl := Option.some.inj H
   go_wp2
   go_ret
   exact ⟨by first | rfl | (simp [errW_none, errW_some] <;> rfl) | (simp [*, errW_none, errW_some] <;> rfl), bel_⟩
end Go.Proofs.YthbljhmjppjcjaaGreatDoor.Z
end

section
/- slices.DeleteFunc over items, by data.open's test. -/
namespace Go.Proofs.YthbljhmjppjcjaaGreatDoor.Z
open Go.RowKit Go.Proofs.YthbljhmjppjcjaaGreatDoorW.PrintWords Go.Proofs.YthbljhmjppjcjaaGreatDoorW.PrintLast Go.Proofs.YthbljhmjppjcjaaGreatDoorW.PrintMore
set_option linter.unusedVariables false
set_option linter.unusedSimpArgs false
abbrev IT := S71
/-- A row of items at block g, told cell by cell. -/
def IRow (w : World) (g cap : Nat) (L : List IT) : Prop := ∃ cur, w.heap[g]? = some (.cells cur 71 (0, 0)) ∧ cur.size = cap * 2 ∧ L.length ≤ cap ∧
  ∀ i x, L[i]? = some x → cur[i * 2]? = some (.string x.f0) ∧ cur[i * 2 + 1]? = some (.string x.f1)
theorem IRow.below {w w' : World} {g cap : Nat} {L : List IT} (h : IRow w g cap L) (hb : Below w.heap.size w w') : IRow w' g cap L := by
  obtain ⟨cur, h1, h2⟩ := h
  exact ⟨cur, blk_below h1 hb, h2⟩
theorem IRow.far {w : World} {g cap : Nat} {L : List IT} (h : IRow w g cap L) {b : Nat} (hne : g ≠ b) (j : Nat) (u : Value) : IRow (w.setCell ⟨b, j, none⟩ u) g cap L := by
  obtain ⟨cur, h1, h2⟩ := h
  exact ⟨cur, (Below.heap_setCell w ⟨b, j, none⟩ u g hne).trans h1, h2⟩
theorem IRow.set {w : World} {g cap : Nat} {L : List IT} (h : IRow w g cap L) (i : Nat) (hi : i < L.length) (x : IT) : IRow ((w.setCell ⟨g, i * 2, none⟩ (.string x.f0)).setCell ⟨g, i * 2 + 1, none⟩ (.string x.f1)) g cap (L.set i x) := by
  obtain ⟨cur, h1, h2, h3, h4⟩ := h
  refine ⟨_, blk_set (blk_set h1 _ _) _ _, by simpa using h2, by simpa using h3, fun j y hy => ?_⟩
  by_cases e : i = j
  · subst e
    rw [List.getElem?_set_self hi] at hy
    obtain rfl := Option.some.inj hy
    refine ⟨?_, ?_⟩
    · rw [Array.getElem?_setIfInBounds_ne (by omega), Array.getElem?_setIfInBounds_self_of_lt (by omega)]
    · rw [Array.getElem?_setIfInBounds_self_of_lt (by rw [Array.size_setIfInBounds]; omega)]
  · rw [List.getElem?_set_ne e] at hy
    obtain ⟨a, b⟩ := h4 j y hy
    refine ⟨?_, ?_⟩
    · rw [Array.getElem?_setIfInBounds_ne (by omega), Array.getElem?_setIfInBounds_ne (by omega)]; exact a
    · rw [Array.getElem?_setIfInBounds_ne (by omega), Array.getElem?_setIfInBounds_ne (by omega)]; exact b
theorem IRow.at_ {w : World} {g cap : Nat} {L : List IT} (h : IRow w g cap L) (i : Int) (h0 : 0 ≤ i) (h1 : i < L.length) :
    w.cell? ⟨g, i.toNat * 2, none⟩ = some (.string (rd_T71 L i).f0) ∧ w.cell? ⟨g, i.toNat * 2 + 1, none⟩ = some (.string (rd_T71 L i).f1) ∧ w.frozen? ⟨g, i.toNat * 2, none⟩ = false ∧ w.frozen? ⟨g, i.toNat * 2 + 1, none⟩ = false := by
  obtain ⟨cur, hg, h2, h3, h4⟩ := h
  have hl : i.toNat < L.length := by omega
  have hr : rd_T71 L i = L[i.toNat] := by
    unfold rd_T71
    rw [List.getD_eq_getElem?_getD, List.getElem?_eq_getElem hl]; rfl
  obtain ⟨a, b⟩ := h4 i.toNat _ (List.getElem?_eq_getElem hl)
  rw [hr]
  exact ⟨(blk_cell hg _).trans a, (blk_cell hg _).trans b, blk_frozen hg _, blk_frozen hg _⟩
theorem IRow.reads {w : World} {g cap : Nat} {L : List IT} (h : IRow w g cap L) (hm : L.length ≤ 9223372036854775807) : Kd.C k71 w (some ⟨g, 0, none⟩) L.length L := by
  obtain ⟨cur, hg, h2, h3, h4⟩ := h
  refine ⟨rfl, hm, fun _ => ⟨_, rfl, fun j x hj => ⟨_, rfl, k71_mk w x, fun i u hu => ?_⟩⟩⟩
  obtain ⟨a, b⟩ := h4 j x hj
  have hadd : (⟨g, 0, none⟩ : Addr).add (j * k71.sz + i) = ⟨g, j * 2 + i, none⟩ := by
    rw [k71_sz]
    unfold Addr.add
    split <;> simp_all
  rw [hadd, blk_cell hg]
  match i, hu with
  | 0, hu => exact a.trans hu
  | 1, hu => exact b.trans hu
theorem IRow.of {w : World} {base : Nat} {ok : Nat → Prop} {v : Value} {L : List IT} (h : k71.R 71 w base ok v L) (hn : 0 < L.length) : ∃ g cap, v = .slice (some ⟨g, 0, none⟩) L.length cap ∧ base ≤ g ∧ L.length ≤ cap ∧ cap ≤ maxLen ∧ IRow w g cap L := by
  obtain ⟨g, cap, cur, inner, rfl, hb, hok, hg, hnc, hc, hsz, hil, ht, hrep⟩ := R_row k71_E h hn
  rw [k71_sz] at hsz
  obtain ⟨_, _, hC⟩ := Kd.R_reads' h
  refine ⟨g, cap, rfl, hb, hnc, hc, cur, hg, hsz, hnc, fun i x hx => ?_⟩
  have hl : i < L.length := (List.getElem?_eq_some_iff.1 hx).1
  obtain ⟨ad, e, hcell⟩ := hC.2.2 hn
  injection e with e
  subst e
  obtain ⟨c, hcl, hK, hcc⟩ := hcell i x hx
  obtain rfl := k71_open hK
  have hadd : ∀ j, (⟨g, 0, none⟩ : Addr).add (i * k71.sz + j) = ⟨g, i * 2 + j, none⟩ := fun j => by
    rw [k71_sz]
    unfold Addr.add
    split <;> simp_all
  have h0 := hcc 0 _ rfl
  have h1 := hcc 1 _ rfl
  rw [hadd, blk_cell hg] at h0 h1
  exact ⟨h0, h1⟩
def delL (k : Nat) : Nat → List IT → Int → Int → Option (List IT)
  | 0, L, i, _ => some (L.take i.toNat)
  | d + 1, L, i, j => (data_open_1.f k (rd_T71 L j).f0 (rd_T71 L j).f1).bind fun b => if b = true then delL k d L i (j + 1) else delL k d (L.set i.toNat (rd_T71 L j)) (i + 1) (j + 1)
theorem delL.mono : ∀ (d : Nat) (L : List IT) (i j : Int) (k : Nat), LeO (delL k d L i j) (delL (k + 1) d L i j)
  | 0, L, i, j, k => LeO.refl _
  | d + 1, L, i, j, k => by
    unfold delL
    exact LeO.bind (data_open_1.mono _ _ _) (fun b => LeO.ite (delL.mono d _ _ _ _) (delL.mono d _ _ _ _))
def delF (k : Nat) (l : List IT) : Option (List IT) := (slices_IndexFunc_api_Item_api_Item_fn43.f k l).bind fun i =>
  if i = -1 then some l else if 0 ≤ i ∧ i < (l.length : Int) then delL k (l.length - (i + 1).toNat) l i (i + 1) else none
theorem delF.mono (l : List IT) : ∀ k, LeO (delF k l) (delF (k + 1) l) := fun k => by
  unfold delF
  exact LeO.bind (slices_IndexFunc_api_Item_api_Item_fn43.mono _ _) (fun _ => LeO.ite (LeO.refl _) (LeO.ite (delL.mono _ _ _ _ _) (LeO.refl _)))
set_option maxRecDepth 100000 in
set_option maxHeartbeats 6400000 in
theorem del_calls (k : Nat) (v : Value) (l r : List IT) (w0 w : World) (hB : Below w0.heap.size w0 w) (hR : k71.R 71 w w0.heap.size (fun _ => True) v l) (h : delF k l = some r) :
    Calls Tryz.prog 42 #[v, .func (.func 43) #[] #[]] w fun e w' => ∃ A c, e = .returned (.slice A r.length c) ∧ r.length ≤ c ∧ Kd.C k71 w' A r.length r ∧ Below w0.heap.size w0 w' := by
  unfold delF at h
  obtain ⟨i, h1, h⟩ := Option.bind_eq_some_iff.mp h
  obtain ⟨A, cp, rfl, hcp, hC⟩ := Kd.R_reads hR
  have H1 := Aside0.mk h1
  have HC := Aside0.mk hC
  have HP := Aside0.mk hcp
  have HB := Aside0.mk hB
  clear h1 hC hcp hB
  by_cases hi : i = -1
  · rw [if_pos hi] at h
    obtain rfl := Option.some.inj h
    subst hi
    clear h hR
    go_enter Tryz.func42, Tryz.ntmps42
    go_wp2_with (go_at_call 67; refine (slices_IndexFunc_api_Item_api_Item_fn43.calls k A cp l (-1) _ HC.out HP.out H1.out).mono ?_; rintro e w1 ⟨rfl, hb⟩; have B1 := Aside0.mk (below_step HB.out hb); have C1 := Aside0.mk (Kd.C_below HC.out hb); clear hb)
    go_ret
    exact ⟨A, cp, rfl, HP.out, C1.out, B1.out⟩
  · rw [if_neg hi] at h
    split at h
    case isFalse => cases h
    case isTrue hir =>
    have hn : 0 < l.length := by omega
    obtain ⟨g, cap, hv, hbg, hnc, hcm, hrow⟩ := IRow.of hR hn
    injection hv with hv1 hv2 hv3
    subst hv1
    subst hv3
    have hib : (i == -1) = false := by simpa using hi
    have hid : decide (i = -1) = false := decide_eq_false hi
    have HROW := Aside0.mk hrow
    have HG := Aside0.mk hbg
    have HI := Aside0.mk hir
    have HM := Aside0.mk hcm
    have HD := Aside0.mk h
    have ew : wrap64 (i + 1) = i + 1 := by unfold wrap64; unfold maxLen at hcm; omega
    have EW := Aside0.mk ew
    clear h hR hrow hbg hir hcm hn hnc ew hi
    go_enter Tryz.func42, Tryz.ntmps42
    go_wp2_with (go_at_call 67; refine (slices_IndexFunc_api_Item_api_Item_fn43.calls k _ cp l i _ HC.out HP.out H1.out).mono ?_; rintro e w1 ⟨rfl, hb⟩; have B1 := Aside0.mk (below_step HB.out hb); have R1 := Aside0.mk (HROW.out.below hb); clear hb)
    have hmx := HM.out
    unfold maxLen at hmx
    have hpx := HP.out
    have HX := Aside0.mk (show (l.length : Int) ≤ 9223372036854775807 by omega)
    clear hmx hpx
    go_loopw [5, 6] (fun vi vj wr => ∃ (i' j : Int) (L : List IT), vi = .int .i64 i' ∧ vj = .int .i64 j ∧ Aside0 (0 ≤ i' ∧ i' < j ∧ j ≤ l.length) ∧ Aside0 (Below w0.heap.size w0 wr ∧ IRow wr g cp L ∧ L.length = l.length) ∧ Aside0 (delL k (l.length - j.toNat) L i' j = some r)) (fun _ vj _ => l.length - (intOf vj).toNat)
    case atStart => exact ⟨i, i + 1, l, rfl, by rw [EW.out], ⟨by have := HI.out; omega⟩, ⟨B1.out, R1.out, rfl⟩, HD⟩
    case round =>
      obtain ⟨i', j, L, rfl, rfl, HJ, HS, HF⟩ := hrel
      obtain ⟨hj0, hj1, hj2⟩ := HJ.out
      have hx := HX.out
      by_cases hlt : j < (l.length : Int)
      · have hlt2 : decide (j < (l.length : Int)) = true := decide_eq_true hlt
        have p0 : ((0 : Int) ≤ j) = True := eq_true (by omega)
        have p1 := eq_true hlt
        have p2 := eq_true hj0
        have p3 : (i' < (l.length : Int)) = True := eq_true (by omega)
        have hF := HF.out
        rw [show l.length - j.toNat = (l.length - (j + 1).toNat) + 1 by omega, delL] at hF
        obtain ⟨b, hb, hF⟩ := Option.bind_eq_some_iff.mp hF
        obtain ⟨c0, c1, _, _⟩ := HS.out.2.1.at_ j (by omega) (by rw [HS.out.2.2]; exact hlt)
        obtain ⟨x, hx0⟩ : ∃ x, x = rd_T71 L j := ⟨_, rfl⟩
        rw [← hx0] at hb hF c0 c1
        have HBQ := Aside0.mk hb
        have HFQ := Aside0.mk hF
        have L1 := Aside0.mk hlt
        have ew1 : wrap64 (j + 1) = j + 1 := by unfold wrap64; omega
        have ew2 : wrap64 (i' + 1) = i' + 1 := by unfold wrap64; omega
        have E1 := Aside0.mk ew1
        have E2 := Aside0.mk ew2
        clear hb hF hlt hj0 hj1 hj2 hx hx0 ew1 ew2
        cases b with
        | true =>
          go_wp2_with (first
            | ((with_reducible refine gate_dst (N := 7) rfl ?_); refine box_event ?hg (N := 7) ?hd (cs := #[.string ⟨#[]⟩, .string ⟨#[]⟩]) (t := 71) ?hr ?_; (case hd => rfl); (case hg => rfl); (case hr => first | (go_simp; done) | (go_simp; rfl)); intro gv hgv w3 hx hb; have NE := Aside0.mk (show g ≠ gv by obtain ⟨cur, h1, _⟩ := HS.out.2.1; have := blk_lt h1; omega); have GV := Aside0.mk (show w0.heap.size ≤ gv by have := HS.out.1.size; omega); have V3 := Aside0.mk hx; have S3 := Aside0.mk (show Below w0.heap.size w0 w3 ∧ IRow w3 g cp L from ⟨below_step HS.out.1 hb, HS.out.2.1.below hb⟩); have q0 : w3.cell? ⟨gv, 0, none⟩ = some (.string ⟨#[]⟩) := (blk_cell V3.out 0).trans rfl; have q1 : w3.cell? ⟨gv, 1, none⟩ = some (.string ⟨#[]⟩) := (blk_cell V3.out 1).trans rfl; have f0 : w3.frozen? ⟨gv, 0, none⟩ = false := blk_frozen V3.out 0; have f1 : w3.frozen? ⟨gv, 1, none⟩ = false := blk_frozen V3.out 1; have V4 : ((w3.setCell ⟨gv, 0, none⟩ (.string x.f0)).setCell ⟨gv, 1, none⟩ (.string x.f1)).heap[gv]? = some (.cells #[.string x.f0, .string x.f1] 71 (0, 0)) := blk_set (blk_set V3.out 0 _) 1 _; have u0 : ((w3.setCell ⟨gv, 0, none⟩ (.string x.f0)).setCell ⟨gv, 1, none⟩ (.string x.f1)).cell? ⟨gv, 0, none⟩ = some (.string x.f0) := (blk_cell V4 0).trans rfl; have u1 : ((w3.setCell ⟨gv, 0, none⟩ (.string x.f0)).setCell ⟨gv, 1, none⟩ (.string x.f1)).cell? ⟨gv, 1, none⟩ = some (.string x.f1) := (blk_cell V4 1).trans rfl; have S4 := Aside0.mk (show Below w0.heap.size w0 ((w3.setCell ⟨gv, 0, none⟩ (.string x.f0)).setCell ⟨gv, 1, none⟩ (.string x.f1)) ∧ IRow ((w3.setCell ⟨gv, 0, none⟩ (.string x.f0)).setCell ⟨gv, 1, none⟩ (.string x.f1)) g cp L from ⟨(S3.out.1.setCell (p := ⟨gv, 0, none⟩) GV.out _).setCell (p := ⟨gv, 1, none⟩) GV.out _, (S3.out.2.far NE.out _ _).far NE.out _ _⟩); have V4 := Aside0.mk V4; clear hx hb hgv c0 c1)
            | (go_at_call 43; refine (data_open_1.calls k x.f0 x.f1 true _ HBQ.out).mono ?_; rintro e w5 ⟨rfl, hb⟩; have S5 := Aside0.mk (show Below w0.heap.size w0 w5 ∧ IRow w5 g cp L from ⟨below_step S4.out.1 hb, S4.out.2.below hb⟩); clear hb q0 q1 f0 f1 u0 u1))
          have hl := L1.out
          have hj := HJ.out
          go_roundw
          case rel => exact ⟨i', j + 1, L, rfl, by rw [E1.out], ⟨by omega⟩, ⟨S5.out.1, S5.out.2, HS.out.2.2⟩, ⟨by simpa using HFQ.out⟩⟩
          case measure =>
            simp [E1.out, intOf]
            omega
        | false =>
          go_wp2_with (first
            | ((with_reducible refine gate_dst (N := 7) rfl ?_); refine box_event ?hg (N := 7) ?hd (cs := #[.string ⟨#[]⟩, .string ⟨#[]⟩]) (t := 71) ?hr ?_; (case hd => rfl); (case hg => rfl); (case hr => first | (go_simp; done) | (go_simp; rfl)); intro gv hgv w3 hx hb; have NE := Aside0.mk (show g ≠ gv by obtain ⟨cur, h1, _⟩ := HS.out.2.1; have := blk_lt h1; omega); have GV := Aside0.mk (show w0.heap.size ≤ gv by have := HS.out.1.size; omega); have V3 := Aside0.mk hx; have S3 := Aside0.mk (show Below w0.heap.size w0 w3 ∧ IRow w3 g cp L from ⟨below_step HS.out.1 hb, HS.out.2.1.below hb⟩); have q0 : w3.cell? ⟨gv, 0, none⟩ = some (.string ⟨#[]⟩) := (blk_cell V3.out 0).trans rfl; have q1 : w3.cell? ⟨gv, 1, none⟩ = some (.string ⟨#[]⟩) := (blk_cell V3.out 1).trans rfl; have f0 : w3.frozen? ⟨gv, 0, none⟩ = false := blk_frozen V3.out 0; have f1 : w3.frozen? ⟨gv, 1, none⟩ = false := blk_frozen V3.out 1; have V4 : ((w3.setCell ⟨gv, 0, none⟩ (.string x.f0)).setCell ⟨gv, 1, none⟩ (.string x.f1)).heap[gv]? = some (.cells #[.string x.f0, .string x.f1] 71 (0, 0)) := blk_set (blk_set V3.out 0 _) 1 _; have u0 : ((w3.setCell ⟨gv, 0, none⟩ (.string x.f0)).setCell ⟨gv, 1, none⟩ (.string x.f1)).cell? ⟨gv, 0, none⟩ = some (.string x.f0) := (blk_cell V4 0).trans rfl; have u1 : ((w3.setCell ⟨gv, 0, none⟩ (.string x.f0)).setCell ⟨gv, 1, none⟩ (.string x.f1)).cell? ⟨gv, 1, none⟩ = some (.string x.f1) := (blk_cell V4 1).trans rfl; have S4 := Aside0.mk (show Below w0.heap.size w0 ((w3.setCell ⟨gv, 0, none⟩ (.string x.f0)).setCell ⟨gv, 1, none⟩ (.string x.f1)) ∧ IRow ((w3.setCell ⟨gv, 0, none⟩ (.string x.f0)).setCell ⟨gv, 1, none⟩ (.string x.f1)) g cp L from ⟨(S3.out.1.setCell (p := ⟨gv, 0, none⟩) GV.out _).setCell (p := ⟨gv, 1, none⟩) GV.out _, (S3.out.2.far NE.out _ _).far NE.out _ _⟩); have V4 := Aside0.mk V4; clear hx hb hgv c0 c1)
            | (go_at_call 43; refine (data_open_1.calls k x.f0 x.f1 false _ HBQ.out).mono ?_; rintro e w5 ⟨rfl, hb⟩; have S5 := Aside0.mk (show Below w0.heap.size w0 w5 ∧ IRow w5 g cp L from ⟨below_step S4.out.1 hb, S4.out.2.below hb⟩); have V5 := Aside0.mk (blk_below V4.out hb); have d0 : w5.cell? ⟨gv, 0, none⟩ = some (.string x.f0) := (blk_cell V5.out 0).trans rfl; have d1 : w5.cell? ⟨gv, 1, none⟩ = some (.string x.f1) := (blk_cell V5.out 1).trans rfl; obtain ⟨r0, r1, z0, z1⟩ := S5.out.2.at_ i' (of_eq_true p2) (by rw [HS.out.2.2]; exact of_eq_true p3); clear hb q0 q1 f0 f1 u0 u1))
          have hl := L1.out
          have hj := HJ.out
          go_roundw
          case rel => exact ⟨i' + 1, j + 1, L.set i'.toNat x, by rw [E2.out], by rw [E1.out], ⟨by omega⟩, ⟨(S5.out.1.setCell (p := ⟨g, i'.toNat * 2, none⟩) HG.out _).setCell (p := ⟨g, i'.toNat * 2 + 1, none⟩) HG.out _, S5.out.2.set i'.toNat (by have := HS.out.2.2; omega) x, by rw [List.length_set]; exact HS.out.2.2⟩, ⟨by simpa using HFQ.out⟩⟩
          case measure =>
            simp [E1.out, intOf]
            omega
      · have hge : decide (j < (l.length : Int)) = false := decide_eq_false hlt
        have hF := HF.out
        rw [show l.length - j.toNat = 0 by omega, delL] at hF
        obtain rfl := Option.some.inj hF
        have p2 := eq_true hj0
        have p3 : (i' < (l.length : Int)) = True := eq_true (by omega)
        have p4 : (i' ≤ (l.length : Int)) = True := eq_true (by omega)
        have p5 : (i' ≤ (cp : Int)) = True := eq_true (by have := HP.out; omega)
        have hne1 : ¬ cp = i'.toNat := by have := HP.out; omega
        have hlL := HS.out.2.2
        obtain ⟨cur, hg, hs2, hs3, hs4⟩ := HS.out.2.1
        obtain ⟨i0, hi0, hz0, hz1, hz2⟩ := info_parts info_Item
        have hzero : ∀ w, (zeroValue 71).run Tryz.prog w = .ok (.agg #[.string ⟨#[]⟩, .string ⟨#[]⟩]) w := fun w => by simp [zeroValue, typeInfo, hi0, hz0]
        have hcz : (Value.agg #[.string ⟨#[]⟩, .string ⟨#[]⟩]).cells.size = 2 := rfl
        have hclear := run_clear_k wr 42 71 0 (.agg #[.string ⟨#[]⟩, .string ⟨#[]⟩]) Tryz.underlying42 hzero (by decide) g (i'.toNat * 2) (l.length - i'.toNat) (cp - i'.toNat) (by omega)
          (fun m hm => by rw [hcz] at hm; exact row_some hg _ (by have := HP.out; omega)) (fun m hm => blk_frozen hg _)
        have hzl : (Builtin.zeroCells (Value.agg #[.string ⟨#[]⟩, .string ⟨#[]⟩]).cells (l.length - i'.toNat)).toList.length = (l.length - i'.toNat) * 2 := by rw [Array.length_toList, size_zeroCells, hcz]
        obtain ⟨cur2, hg2, hs5, ht2⟩ := setCells_row (Builtin.zeroCells (Value.agg #[.string ⟨#[]⟩, .string ⟨#[]⟩]).cells (l.length - i'.toNat)).toList (i'.toNat * 2) wr cur hg (by rw [hzl]; have := HP.out; omega)
        have B2 := Aside0.mk (below_setCells HS.out.1 HG.out (i'.toNat * 2) (Builtin.zeroCells (Value.agg #[.string ⟨#[]⟩, .string ⟨#[]⟩]).cells (l.length - i'.toNat)).toList)
        generalize wr.setCells g (i'.toNat * 2) _ = W2 at hclear hg2 B2
        have hrow2 : IRow W2 g cp (L.take i'.toNat) := by
          refine ⟨cur2, hg2, by rw [hs5]; exact hs2, by rw [List.length_take]; omega, fun m x hm => ?_⟩
          have hml : m < i'.toNat := by
            have := (List.getElem?_eq_some_iff.1 hm).1
            rw [List.length_take] at this
            omega
          rw [List.getElem?_take, if_pos hml] at hm
          obtain ⟨a, b⟩ := hs4 m x hm
          have hcut : ∀ q, q < i'.toNat * 2 → cur2[q]? = cur[q]? := fun q hq => by
            have := congrArg (fun l : List Value => l[q]?) ht2
            simp only [Array.getElem?_toList] at this
            rw [this, List.append_assoc, List.getElem?_append_left (by rw [List.length_take, Array.length_toList]; have := HP.out; omega), List.getElem?_take, if_pos hq, Array.getElem?_toList]
          exact ⟨(hcut _ (by omega)).trans a, (hcut _ (by omega)).trans b⟩
        have HR2 := Aside0.mk (hrow2.reads (by rw [List.length_take]; have := HX.out; omega))
        have HCL := Aside0.mk hclear
        have HTL := Aside0.mk (show (L.take i'.toNat).length = i'.toNat by rw [List.length_take]; omega)
        clear hF hlt hj1 hj2 hx HF hclear hrow2 hg hs2 hs3 hs4 hi0 hz0 hz1 hz2 hzero hcz hzl hg2 hs5 ht2 hlL
        go_wp2
        rw [HCL.out]
        go_wp2
        go_ret
        refine ⟨some ⟨g, 0, none⟩, cp, by rw [HTL.out]; rfl, by rw [HTL.out]; have := HP.out; have := HJ.out; omega, HR2.out, B2.out⟩
end Go.Proofs.YthbljhmjppjcjaaGreatDoor.Z
end

section
/- strings.TrimRight at the zero byte. -/
namespace Go.Proofs.YthbljhmjppjcjaaGreatDoor.Z
open Go.RowKit Go.Proofs.YthbljhmjppjcjaaGreatDoorW.PrintWords Go.Proofs.YthbljhmjppjcjaaGreatDoorW.PrintLast
set_option linter.unusedVariables false
set_option linter.unusedSimpArgs false
/-- Bytes without the zero bytes at their end. -/
def trimL (l : List UInt8) : List UInt8 := (l.reverse.dropWhile (· == 0)).reverse
def trimB (a : ByteArray) : ByteArray := ⟨(trimL a.data.toList).toArray⟩
def strings_TrimRight.f (a0 a1 : ByteArray) : Option ByteArray := if a1 = ⟨#[0]⟩ ∧ a0.size ≤ 9223372036854775807 then some (trimB a0) else none
theorem trimL_snoc (l : List UInt8) (b : UInt8) : trimL (l ++ [b]) = if b = 0 then trimL l else l ++ [b] := by
  unfold trimL
  rw [List.reverse_append, List.reverse_singleton, List.singleton_append, List.dropWhile_cons]
  by_cases h : b = 0
  · subst h; simp
  · rw [if_neg h, if_neg (by simpa using h)]; simp
theorem trim_nil (a : ByteArray) (h : a.size = 0) : trimB a = a := by
  obtain ⟨⟨l⟩⟩ := a
  have : l = [] := List.eq_nil_of_length_eq_zero h
  subst this
  rfl
theorem last_cases (a : ByteArray) (k : Nat) (hk : a.size = k + 1) : (a[k] = 0 → trimB a = trimB (a.extract 0 k)) ∧ (¬ a[k] = 0 → trimB a = a) := by
  obtain ⟨⟨l⟩⟩ := a
  have hl : l.length = k + 1 := hk
  obtain rfl | ⟨l', b, rfl⟩ := List.eq_nil_or_concat l
  · cases hl
  · have hk' : l'.length = k := by simpa using hl
    subst hk'
    have e : (⟨⟨l'.concat b⟩⟩ : ByteArray)[l'.length] = b := by
      show (l'.concat b)[l'.length]'(by simp) = b
      simp
    rw [e]
    refine ⟨fun hb => ?_, fun hb => ?_⟩
    · unfold trimB
      rw [List.concat_eq_append, trimL_snoc, if_pos hb, Lib.extract_eq]
      simp
    · unfold trimB
      rw [List.concat_eq_append, trimL_snoc, if_neg hb]
set_option maxHeartbeats 1600000 in
theorem trimByte (a : ByteArray) (ha : a.size ≤ 9223372036854775807) (w : World) :
    Calls Tryz.prog 70 #[.string a, .int .u8 0] w fun e w' => e = .returned (.string (trimB a)) ∧ w' = w := by
  go_enter Tryz.func70, Tryz.ntmps70
  go_wp2
  go_loop [0] (fun s => ∃ b : ByteArray, s = .string b ∧ Aside0 (b.size ≤ 9223372036854775807) ∧ Aside0 (trimB b = trimB a)) (fun s => match s with | .string b => b.size | _ => 0)
  case atStart => exact ⟨a, rfl, ⟨ha⟩, ⟨rfl⟩⟩
  case round =>
    obtain ⟨b, rfl, HS, HT⟩ := hrel
    by_cases h0 : b.size = 0
    · have e0 : (b.size : Int) = 0 := by omega
      have hf : decide ((0 : Int) < (b.size : Int)) = false := by simp [h0]
      have hf2 : decide (0 < b.size) = false := by simp [h0]
      have hE : trimB b = b := trim_nil b h0
      have HE := Aside0.mk hE
      clear hE e0 h0
      go_wp2
      go_ret
      exact ⟨by rw [← HT.out, HE.out]; rfl, rfl⟩
    · obtain ⟨k, hk⟩ : ∃ k, b.size = k + 1 := ⟨b.size - 1, by omega⟩
      obtain ⟨h1, h2⟩ := last_cases b k hk
      have hf : decide ((0 : Int) < (b.size : Int)) = true := by simp; omega
      have hf2 : decide (0 < b.size) = true := by simp; omega
      have HK := Aside0.mk hk
      have H1 := Aside0.mk h1
      have H2 := Aside0.mk h2
      clear h1 h2
      have hsz := HS.out
      go_wp2
      · have hz : b[k] = 0 := by
          have hq : (((b[k].toNat : Nat) : Int) == 0) = true := by assumption
          have hq := beq_iff_eq.1 hq
          have : b[k].toNat = 0 := by omega
          exact UInt8.toNat_inj.1 this
        refine ⟨⟨b.extract 0 k, rfl, ⟨?_⟩, ⟨?_⟩⟩, ?_⟩
        · rw [ByteArray.size_extract]; omega
        · rw [← H1.out hz, HT.out]
        · show (b.extract 0 k).size < b.size
          rw [ByteArray.size_extract]; omega
      · have hz : ¬ b[k] = 0 := by
          intro hc
          have hq : (((b[k].toNat : Nat) : Int) == 0) = false := by assumption
          rw [hc] at hq
          exact absurd hq (by decide)
        go_ret
        exact ⟨by rw [← HT.out, H2.out hz]; rfl, rfl⟩
set_option maxRecDepth 100000 in
theorem strings_TrimRight.calls (a0 a1 : ByteArray) (r : ByteArray) (w : World) (h : strings_TrimRight.f a0 a1 = some r) :
    Calls Tryz.prog 46 #[.string a0, .string a1] w fun e w' => e = .returned (.string r) ∧ Drawn0 w w' := by
  unfold strings_TrimRight.f at h
  split at h
  case isFalse => cases h
  case isTrue hs =>
    obtain ⟨rfl, hs⟩ := hs
    obtain rfl := Option.some.inj h
    by_cases h0 : a0.toList = []
    · have e0 : a0.toList.isEmpty = true := by rw [h0]; rfl
      have hE : trimB a0 = a0 := trim_nil a0 (by
        rw [ByteArray.toList_eq] at h0
        have := congrArg List.length h0
        rw [Array.length_toList] at this
        exact this)
      have HE := Aside0.mk hE
      clear hE
      go_enter Tryz.func46, Tryz.ntmps46
      go_wp2
      go_ret
      exact ⟨by rw [HE.out]; rfl, Drawn0.refl _⟩
    · have e0 : a0.toList.isEmpty = false := by simpa using h0
      have HS := Aside0.mk hs
      clear hs
      go_enter Tryz.func46, Tryz.ntmps46
      go_wp2_with (go_at_call 70; refine (trimByte a0 HS.out _).mono ?_; rintro e w' ⟨rfl, rfl⟩)
      go_ret
      exact ⟨rfl, Drawn0.refl _⟩
end Go.Proofs.YthbljhmjppjcjaaGreatDoor.Z
end

section
namespace Go.Proofs.YthbljhmjppjcjaaGreatDoor.Z
open Go.RowKit Go.Proofs.YthbljhmjppjcjaaGreatDoorW.PrintWords Go.Proofs.YthbljhmjppjcjaaGreatDoorW.PrintLast Go.Proofs.YthbljhmjppjcjaaGreatDoorW.PrintMore
attribute [local go_sem] max2_int min2_int max_two min_two max_three min_three max_four min_four   -- for this text's walks alone
set_option linter.unusedVariables false
set_option linter.unusedSimpArgs false
def data_file_kept_1.f (a0_0 : ByteArray) (a0_1 : ByteArray) (a1 : ByteArray) : Option (Int) := (cmp_Compare_string.f a0_0 a1).bind fun t203 => (some t203)
set_option maxHeartbeats 8000000 in
set_option maxRecDepth 100000 in
theorem data_file_kept_1.calls (a0_0 : ByteArray) (a0_1 : ByteArray) (a1 : ByteArray) (r : Int) (w : World) (h : data_file_kept_1.f a0_0 a0_1 a1 = some r) :
  Calls Tryz.prog 69 #[.agg #[.string a0_0, .string a0_1], .string a1] w fun e w' => e = .returned (.int .i64 r) ∧ Below w.heap.size w w' := by
 have hu71 := Tryz.underlying71
 have HB := Aside0.mk (Below.refl w.heap.size w)
 have H : ((cmp_Compare_string.f a0_0 a1).bind fun t203 => (some t203)) = some r := h
 clear h
 replace H := Option.bind_eq_some_iff.mp H
 obtain ⟨t203, A30, H⟩ := H
 replace H : (some t203) = some r := H
 have A3 := Aside0.mk A30
 clear A30
 obtain rfl := Option.some.inj H
 go_enter Tryz.func69, Tryz.ntmps69
 go_wp2_with (first | ((with_reducible refine gate_dst (N := 2) rfl ?_); refine bx_ (N := 2) (cs := #[.string a0_0, .string a0_1]) (t := 71) ?_; intro gb202 hg w4 hbox hb; have BK202 := Aside0.mk (hbox); have GW202 := ge_ hg; have GE202 := ge_ hg; replace HB := hb_ hb; clear hb hbox hg; obtain ⟨hcz5_0, hcz5_1⟩ := cl2_ BK202; obtain ⟨hfz5_0, hfz5_1⟩ := fz2_ BK202) | ((with_reducible refine gate_callee (f := 54) rfl ?_); refine gl_ (some 8) Tryz.func54 #[.string a0_0, .string a1] ?_; (with_reducible refine (cmp_Compare_string.calls a0_0 a1 t203 _ A3.out).mono ?_); rintro e w' ⟨rfl, ⟨nd, rfl⟩⟩; refine ⟨_, rfl, ?_⟩))
 go_ret
 exact ⟨by first | rfl | (simp [errW_none, errW_some] <;> rfl) | (simp [*, errW_none, errW_some] <;> rfl), bel_⟩
def slices_BinarySearchFunc_api_Item_api_Item_string_fn69.l0 : Nat → List (S71) → ByteArray → Int → Int → Int → Option (Int × Bool)
 | 0, _, _, _, _, _ => none
 | k + 1, x0, x1, x8, x9, x10 => if x9 < x10 then (if 0 ≤ (wrap64 ((IntKind.u64.wrap (wrap64 (x9 + x10))) / 2)) then (if (wrap64 ((IntKind.u64.wrap (wrap64 (x9 + x10))) / 2)) < (x0.length : Int) then ((data_file_kept_1.f ((rd_T71 x0 (wrap64 ((IntKind.u64.wrap (wrap64 (x9 + x10))) / 2))).f0) ((rd_T71 x0 (wrap64 ((IntKind.u64.wrap (wrap64 (x9 + x10))) / 2))).f1) x1).bind fun t205 => (if t205 < 0 then (slices_BinarySearchFunc_api_Item_api_Item_string_fn69.l0 k x0 x1 x8 (wrap64 ((wrap64 ((IntKind.u64.wrap (wrap64 (x9 + x10))) / 2)) + 1)) x10) else (slices_BinarySearchFunc_api_Item_api_Item_string_fn69.l0 k x0 x1 x8 x9 (wrap64 ((IntKind.u64.wrap (wrap64 (x9 + x10))) / 2))))) else (none)) else (none)) else (if x9 < x8 then (if 0 ≤ x9 then (if x9 < (x0.length : Int) then ((data_file_kept_1.f ((rd_T71 x0 x9).f0) ((rd_T71 x0 x9).f1) x1).bind fun t207 => (some (x9, (t207 == 0)))) else (none)) else (none)) else (some (x9, false)))
def slices_BinarySearchFunc_api_Item_api_Item_string_fn69.f (k : Nat) (l0 : List (S71)) (a1 : ByteArray)  : Option (Int × Bool) := slices_BinarySearchFunc_api_Item_api_Item_string_fn69.l0 k l0 a1 (l0.length : Int) 0 (l0.length : Int)
theorem slices_BinarySearchFunc_api_Item_api_Item_string_fn69.mono_l : ∀ k, (∀ y0 y1 y2 y3 y4, LeO (slices_BinarySearchFunc_api_Item_api_Item_string_fn69.l0 k y0 y1 y2 y3 y4) (slices_BinarySearchFunc_api_Item_api_Item_string_fn69.l0 (k + 1) y0 y1 y2 y3 y4))
 | 0 => fun _ _ _ _ _ r h => by simp [slices_BinarySearchFunc_api_Item_api_Item_string_fn69.l0] at h
 | k + 1 => by
  have ih0 := slices_BinarySearchFunc_api_Item_api_Item_string_fn69.mono_l k
  ·intro y0 y1 y2 y3 y4
   unfold slices_BinarySearchFunc_api_Item_api_Item_string_fn69.l0
   repeat' first
   | (with_reducible exact ih0 _ _ _ _ _)
   | (with_reducible exact LeO.refl _)
   | (with_reducible exact LeO.none _)
   | (with_reducible refine LeO.ite ?_ ?_)
   | (with_reducible refine LeO.bind ?_ (fun _ => ?_))
   | exact ih0 _ _ _ _ _
   | exact LeO.none _
   | refine LeO.ite ?_ ?_
   | refine LeO.bind ?_ (fun _ => ?_)
theorem slices_BinarySearchFunc_api_Item_api_Item_string_fn69.mono : ∀ a0 a1 k, LeO (slices_BinarySearchFunc_api_Item_api_Item_string_fn69.f k a0 a1) (slices_BinarySearchFunc_api_Item_api_Item_string_fn69.f (k + 1) a0 a1) := by
 intro a0 a1 k
 have ih0 := slices_BinarySearchFunc_api_Item_api_Item_string_fn69.mono_l k
 unfold slices_BinarySearchFunc_api_Item_api_Item_string_fn69.f
 repeat' first
   | (with_reducible exact ih0 _ _ _ _ _)
   | (with_reducible exact LeO.refl _)
   | (with_reducible exact LeO.none _)
   | (with_reducible refine LeO.ite ?_ ?_)
   | (with_reducible refine LeO.bind ?_ (fun _ => ?_))
   | exact ih0 _ _ _ _ _
   | exact LeO.none _
   | refine LeO.ite ?_ ?_
   | refine LeO.bind ?_ (fun _ => ?_)
set_option maxHeartbeats 8000000 in
set_option maxRecDepth 100000 in
theorem slices_BinarySearchFunc_api_Item_api_Item_string_fn69.calls (k : Nat) (A0 : Option Addr) (c0 : Nat) (l0 : List (S71)) (a1 : ByteArray)  (r1 : Int) (r2 : Bool) (w : World) (hr0 : Kd.C k71 w A0 l0.length l0) (hc0 : l0.length ≤ c0) (h : slices_BinarySearchFunc_api_Item_api_Item_string_fn69.f k l0 a1 = some (r1, r2)) :
  Calls Tryz.prog 52 #[.slice A0 l0.length c0, .string a1, .func (.func 69) #[] #[]] w fun e w' => e = .returned (.tuple #[.int .i64 r1, .bool r2]) ∧ Below w.heap.size w w' := by
 have hu71 := Tryz.underlying71
 have HR0 := Aside0.mk hr0
 have HC0 := Aside0.mk hc0
 clear hr0 hc0
 have HB := Aside0.mk (Below.refl w.heap.size w)
 have H : (slices_BinarySearchFunc_api_Item_api_Item_string_fn69.l0 k l0 a1 (l0.length : Int) 0 (l0.length : Int)) = some (r1, r2) := h
 clear h
 have H' := Aside0.mk H
 clear H
 go_enter Tryz.func52, Tryz.ntmps52
 go_wp2
 go_loopg [9, 10] k (fun kq v9 v10 w' => ∃ (x9_1 : Int) (x10_1 : Int), v9 = .int .i64 x9_1 ∧ v10 = .int .i64 x10_1 ∧ Aside0 (slices_BinarySearchFunc_api_Item_api_Item_string_fn69.l0 kq l0 a1 (l0.length : Int) x9_1 x10_1 = some (r1, r2)) ∧ Aside0 (kq ≤ k) ∧ Aside0 (Below w.heap.size w w'))
 case atStart => exact ⟨(0), ((l0.length : Int)), (by first | rfl | (simp; done) | (simp [*]; done)), (by first | rfl | (simp; done) | (simp [*]; done)), H', ⟨Nat.le_refl _⟩, ⟨bel_⟩⟩
 case round =>
  clear H'
  try clear p2
  obtain ⟨x9_1, x10_1, rfl, rfl, HA, HK1, HB⟩ := hrel
  cases gk with
  | zero => exact absurd HA.out (by simp [slices_BinarySearchFunc_api_Item_api_Item_string_fn69.l0])
  | succ k1 =>
   have H := HA.out
   clear HA
   simp only [slices_BinarySearchFunc_api_Item_api_Item_string_fn69.l0] at H
   by_cases c4 : x9_1 < x10_1
   ·rw [if_pos c4] at H
    have c4b0 : decide (x9_1 < x10_1) = true := decide_eq_true c4
    clear c4
    obtain ⟨ji5, hji5⟩ : ∃ j_ : Int, (wrap64 ((IntKind.u64.wrap (wrap64 (x9_1 + x10_1))) / 2)) = j_ := ⟨_, rfl⟩
    replace H : (if 0 ≤ (ji5) then (if (ji5) < (l0.length : Int) then ((data_file_kept_1.f ((rd_T71 l0 (ji5)).f0) ((rd_T71 l0 (ji5)).f1) a1).bind fun t205 => (if t205 < 0 then (slices_BinarySearchFunc_api_Item_api_Item_string_fn69.l0 k1 l0 a1 (l0.length : Int) (wrap64 ((ji5) + 1)) x10_1) else (slices_BinarySearchFunc_api_Item_api_Item_string_fn69.l0 k1 l0 a1 (l0.length : Int) x9_1 ji5))) else (none)) else (none)) = some (r1, r2) := by first | (rw [hji5] at H; exact H) | (simp only [hji5] at H ⊢; exact H)
    have hji5w : (IntKind.i64.wrap ((IntKind.u64.wrap (wrap64 (x9_1 + x10_1))) / 2)) = ji5 := (i64_w _).trans hji5
    by_cases c6 : 0 ≤ (ji5)
    ·rw [if_pos c6] at H
     have c6b0 : decide (0 ≤ (ji5)) = true := decide_eq_true c6
     clear c6
     by_cases c7 : (ji5) < (l0.length : Int)
     ·rw [if_pos c7] at H
      have c7b0 : decide ((ji5) < (l0.length : Int)) = true := decide_eq_true c7
      clear c7
      replace H := Option.bind_eq_some_iff.mp H
      obtain ⟨t205, A80, H⟩ := H
      replace H : (if t205 < 0 then (slices_BinarySearchFunc_api_Item_api_Item_string_fn69.l0 k1 l0 a1 (l0.length : Int) (wrap64 ((ji5) + 1)) x10_1) else (slices_BinarySearchFunc_api_Item_api_Item_string_fn69.l0 k1 l0 a1 (l0.length : Int) x9_1 ji5)) = some (r1, r2) := H
      have A8 := Aside0.mk A80
      clear A80
      by_cases c9 : t205 < 0
      ·rw [if_pos c9] at H
       have c9b0 : decide (t205 < 0) = true := decide_eq_true c9
       clear c9
       have H' := Aside0.mk H
       clear H
       have p204 : 0 ≤ ((ji5) : Int) := of_decide_eq_true (by first | (with_reducible assumption) | assumption)
       have q204 : (ji5) < (l0.length : Int) := of_decide_eq_true (by first | (with_reducible assumption) | assumption)
       obtain ⟨ad204, e204, hx204_0, hx204_1⟩ := at_T71 HR0.out (ji5) p204 q204
       cases e204
       replace hx204_0 := (HB.out.cell (World.block_lt_of_cell? w _ hx204_0)).trans hx204_0
       replace hx204_1 := (HB.out.cell (World.block_lt_of_cell? w _ hx204_1)).trans hx204_1
       replace p204 := eq_true p204
       replace q204 := eq_true q204
       go_wp2_with (first | ((with_reducible refine gate_dyn rfl ?_); refine goesD_ (some 30) rfl rfl Tryz.func69 (by kernel_rfl) rfl #[.agg #[.string ((rd_T71 l0 (ji5)).f0), .string ((rd_T71 l0 (ji5)).f1)], .string a1] rfl rfl (by (try simp only [List.map_toArray, List.map_cons, List.map_nil]); first | done | (simp only [hji5]; rfl) | rfl | (simp only [List.length_drop, List.length_take]; rfl)) ?_; (with_reducible refine (data_file_kept_1.calls ((rd_T71 l0 (ji5)).f0) ((rd_T71 l0 (ji5)).f1) a1 t205 _ A8.out).mono ?_); rintro e w10 ⟨rfl, hb⟩; refine ⟨_, rfl, ?_⟩; replace HB := hb_ hb; (try clear hb); (try clear hb2); (try clear hk); (try clear hi)))
       go_roundg k1
       case measure => have := HK1.out; omega
       case rel => exact ⟨(wrap64 ((ji5) + 1)), (x10_1), (by first | rfl | (simp; done) | (simp only [← hji5] <;> (first | rfl | simp)) | (simp [*]; done)), (by first | rfl | (simp; done) | (simp [*]; done)), H', ⟨by have := HK1.out; omega⟩, ⟨bel_⟩⟩
      rw [if_neg c9] at H
      have c9b0 : decide (t205 < 0) = false := decide_eq_false c9
      clear c9
      have H' := Aside0.mk H
      clear H
      have p204 : 0 ≤ ((ji5) : Int) := of_decide_eq_true (by first | (with_reducible assumption) | assumption)
      have q204 : (ji5) < (l0.length : Int) := of_decide_eq_true (by first | (with_reducible assumption) | assumption)
      obtain ⟨ad204, e204, hx204_0, hx204_1⟩ := at_T71 HR0.out (ji5) p204 q204
      cases e204
      replace hx204_0 := (HB.out.cell (World.block_lt_of_cell? w _ hx204_0)).trans hx204_0
      replace hx204_1 := (HB.out.cell (World.block_lt_of_cell? w _ hx204_1)).trans hx204_1
      replace p204 := eq_true p204
      replace q204 := eq_true q204
      go_wp2_with (first | ((with_reducible refine gate_dyn rfl ?_); refine goesD_ (some 30) rfl rfl Tryz.func69 (by kernel_rfl) rfl #[.agg #[.string ((rd_T71 l0 (ji5)).f0), .string ((rd_T71 l0 (ji5)).f1)], .string a1] rfl rfl (by (try simp only [List.map_toArray, List.map_cons, List.map_nil]); first | done | (simp only [hji5]; rfl) | rfl | (simp only [List.length_drop, List.length_take]; rfl)) ?_; (with_reducible refine (data_file_kept_1.calls ((rd_T71 l0 (ji5)).f0) ((rd_T71 l0 (ji5)).f1) a1 t205 _ A8.out).mono ?_); rintro e w11 ⟨rfl, hb⟩; refine ⟨_, rfl, ?_⟩; replace HB := hb_ hb; (try clear hb); (try clear hb2); (try clear hk); (try clear hi)))
      go_roundg k1
      case measure => have := HK1.out; omega
      case rel => exact ⟨(x9_1), (ji5), (by first | rfl | (simp; done) | (simp [*]; done)), (by first | rfl | (simp; done) | (simp only [← hji5] <;> (first | rfl | simp)) | (simp [*]; done)), H', ⟨by have := HK1.out; omega⟩, ⟨bel_⟩⟩
     rw [if_neg c7] at H
     exact absurd H (by simp)
    rw [if_neg c6] at H
    exact absurd H (by simp)
   rw [if_neg c4] at H
   have c4b0 : decide (x9_1 < x10_1) = false := decide_eq_false c4
   clear c4
   by_cases c12 : x9_1 < (l0.length : Int)
   ·rw [if_pos c12] at H
    have c12b0 : decide (x9_1 < (l0.length : Int)) = true := decide_eq_true c12
    clear c12
    by_cases c13 : 0 ≤ x9_1
    ·rw [if_pos c13] at H
     have c13b0 : decide (0 ≤ x9_1) = true := decide_eq_true c13
     clear c13
     by_cases c14 : x9_1 < (l0.length : Int)
     ·rw [if_pos c14] at H
      have c14b0 : decide (x9_1 < (l0.length : Int)) = true := decide_eq_true c14
      clear c14
      replace H := Option.bind_eq_some_iff.mp H
      obtain ⟨t207, A150, H⟩ := H
      replace H : (some (x9_1, (t207 == 0))) = some (r1, r2) := H
      have A15 := Aside0.mk A150
      clear A150
      simp only [Option.some.injEq, Prod.mk.injEq] at H
      obtain ⟨rfl, rfl⟩ := H
      have p206 : 0 ≤ (x9_1 : Int) := of_decide_eq_true (by first | (with_reducible assumption) | assumption)
      have q206 : x9_1 < (l0.length : Int) := of_decide_eq_true (by first | (with_reducible assumption) | assumption)
      obtain ⟨ad206, e206, hx206_0, hx206_1⟩ := at_T71 HR0.out x9_1 p206 q206
      cases e206
      replace hx206_0 := (HB.out.cell (World.block_lt_of_cell? w _ hx206_0)).trans hx206_0
      replace hx206_1 := (HB.out.cell (World.block_lt_of_cell? w _ hx206_1)).trans hx206_1
      replace p206 := eq_true p206
      replace q206 := eq_true q206
      go_wp2_with (first | (go_at_call 69; (with_reducible refine (data_file_kept_1.calls ((rd_T71 l0 x9_1).f0) ((rd_T71 l0 x9_1).f1) a1 t207 _ A15.out).mono ?_); rintro e w16 ⟨rfl, hb⟩; replace HB := hb_ hb; (try clear hb); (try clear hb2); (try clear hk); (try clear hi)))
      go_ret2
      exact ⟨by first | rfl | (simp [errW_none, errW_some] <;> rfl) | (simp [*, errW_none, errW_some] <;> rfl), bel_⟩
     rw [if_neg c14] at H
     exact absurd H (by simp)
    rw [if_neg c13] at H
    exact absurd H (by simp)
   rw [if_neg c12] at H
   have c12b0 : decide (x9_1 < (l0.length : Int)) = false := decide_eq_false c12
   clear c12
   simp only [Option.some.injEq, Prod.mk.injEq] at H
   obtain ⟨rfl, rfl⟩ := H
   go_wp2
   go_ret2
   exact ⟨by first | rfl | (simp [errW_none, errW_some] <;> rfl) | (simp [*, errW_none, errW_some] <;> rfl), bel_⟩
end Go.Proofs.YthbljhmjppjcjaaGreatDoor.Z
end

section
/- data.file: a chunk's key, what is kept of a chunk. -/
namespace Go.Proofs.YthbljhmjppjcjaaGreatDoor.Z
open Go.RowKit Go.Proofs.YthbljhmjppjcjaaGreatDoorW.PrintWords Go.Proofs.YthbljhmjppjcjaaGreatDoorW.PrintLast Go.Proofs.YthbljhmjppjcjaaGreatDoorW.PrintMore
set_option linter.unusedVariables false
set_option linter.unusedSimpArgs false
/-- A file at block g of w: its number, its chunks. -/
def FileAt (w : World) (g : Nat) (ino : Int) (A : Option Addr) (c : Nat) (l : List S71) : Prop :=
  w.heap[g]? = some (.cells #[.int .u32 ino, .slice A l.length c] 111 (0, 0)) ∧ Kd.C k71 w A l.length l ∧ l.length ≤ c
theorem FileAt.below {w w' : World} {g : Nat} {ino : Int} {A : Option Addr} {c : Nat} {l : List S71} (h : FileAt w g ino A c l) (hb : Below w.heap.size w w') : FileAt w' g ino A c l := ⟨blk_below h.1 hb, Kd.C_below h.2.1 hb, h.2.2⟩
def keyF (k : Nat) (ino c : Int) : Option ByteArray := (inode_Key.f k 3 ino ⟨#[]⟩ (c % 4294967296)).bind fun bt => some bt.1
theorem keyF.mono (ino c : Int) : ∀ k, LeO (keyF k ino c) (keyF (k + 1) ino c) := fun k => by
  unfold keyF
  exact LeO.bind (inode_Key.mono _ _ _ _ _) (fun _ => LeO.refl _)
set_option maxRecDepth 100000 in
theorem key_calls (k : Nat) (g : Nat) (ino c : Int) (A : Option Addr) (cp : Nat) (l : List S71) (r : ByteArray) (w : World) (hF : FileAt w g ino A cp l) (h : keyF k ino c = some r) :
    Calls Tryz.prog 47 #[.pointer (some ⟨g, 0, none⟩), .int .i64 c] w fun e w' => e = .returned (.string r) ∧ Below w.heap.size w w' := by
  have q0 : w.cell? ⟨g, 0, none⟩ = some (.int .u32 ino) := (blk_cell hF.1 0).trans rfl
  unfold keyF at h
  obtain ⟨⟨r1, r2⟩, h1, h2⟩ := Option.bind_eq_some_iff.mp h
  obtain rfl := Option.some.inj h2
  have H := Aside0.mk h1
  clear h h1 h2 hF
  go_enter Tryz.func47, Tryz.ntmps47
  go_wp2_with (go_at_call 7; with_reducible refine (inode_Key.calls k 3 ino ⟨#[]⟩ (c % 4294967296) r1 r2 _ H.out).mono ?_; rintro e w1 ⟨rfl, hb⟩; have B1 := Aside0.mk hb; clear hb)
  go_ret
  exact ⟨rfl, B1.out⟩
def keptF (k : Nat) (ino : Int) (l : List S71) (c : Int) : Option (ByteArray × Bool) := (keyF k ino c).bind fun s => (slices_BinarySearchFunc_api_Item_api_Item_string_fn69.f k l s).bind fun q =>
  if q.2 = true then (if 0 ≤ q.1 ∧ q.1 < (l.length : Int) then some ((rd_T71 l q.1).f1, true) else none) else some (⟨#[]⟩, false)
theorem keptF.mono (ino : Int) (l : List S71) (c : Int) : ∀ k, LeO (keptF k ino l c) (keptF (k + 1) ino l c) := fun k => by
  unfold keptF
  exact LeO.bind (keyF.mono _ _ _) (fun _ => LeO.bind (slices_BinarySearchFunc_api_Item_api_Item_string_fn69.mono _ _ _) (fun _ => LeO.refl _))
set_option maxRecDepth 100000 in
set_option maxHeartbeats 3200000 in
theorem kept_calls (k : Nat) (g : Nat) (ino c : Int) (A : Option Addr) (cp : Nat) (l : List S71) (r1 : ByteArray) (r2 : Bool) (w : World) (hF : FileAt w g ino A cp l) (h : keptF k ino l c = some (r1, r2)) :
    Calls Tryz.prog 45 #[.pointer (some ⟨g, 0, none⟩), .int .i64 c] w fun e w' => e = .returned (.tuple #[.string r1, .bool r2]) ∧ Below w.heap.size w w' := by
  have q1 : w.cell? ⟨g, 1, none⟩ = some (.slice A l.length cp) := (blk_cell hF.1 1).trans rfl
  unfold keptF at h
  obtain ⟨s, h1, h⟩ := Option.bind_eq_some_iff.mp h
  obtain ⟨⟨i, is⟩, h2, h⟩ := Option.bind_eq_some_iff.mp h
  have HF := Aside0.mk hF
  have H1 := Aside0.mk h1
  have H2 := Aside0.mk h2
  have H3 := Aside0.mk h
  clear h h1 h2 hF
  go_enter Tryz.func45, Tryz.ntmps45
  go_wp2
  go_region_held3 (fun w' => w'.cell? ⟨g, 1, none⟩ = some (.slice A l.length cp)) (first | exact q1 | exact q2 | exact q3) (first
    | (go_at_call 47; refine (key_calls k g ino c A cp l s _ (HF.out.below (by first | exact Below.refl _ _ | exact below_drew1 (Below.refl _ _) | exact pw_below_drewN (Below.refl _ _) _)) H1.out).mono ?_; rintro e w1 ⟨rfl, hb⟩; have F1 := Aside0.mk ((HF.out.below (by first | exact Below.refl _ _ | exact below_drew1 (Below.refl _ _) | exact pw_below_drewN (Below.refl _ _) _)).below hb); have B1 := Aside0.mk (below_step (by first | exact Below.refl _ _ | exact below_drew1 (Below.refl _ _) | exact pw_below_drewN (Below.refl _ _) _) hb); have q2 : w1.cell? ⟨g, 1, none⟩ = some (.slice A l.length cp) := (blk_cell F1.out.1 1).trans rfl; clear hb)
    | (go_at_call 52; refine (slices_BinarySearchFunc_api_Item_api_Item_string_fn69.calls k A cp l s i is _ F1.out.2.1 F1.out.2.2 H2.out).mono ?_; rintro e w2 ⟨rfl, hb⟩; have F2 := Aside0.mk (F1.out.below hb); have B2 := Aside0.mk (below_step B1.out hb); have q3 : w2.cell? ⟨g, 1, none⟩ = some (.slice A l.length cp) := (blk_cell F2.out.1 1).trans rfl; clear hb))
  clear q1 q2
  have hB := Aside0.mk ((below_drew1 (Below.refl w.heap.size w)).trans B2.out)
  cases is with
  | false =>
    have h3 := H3.out
    rw [if_neg (by decide)] at h3
    have h4 := Option.some.inj h3
    simp only [Prod.mk.injEq] at h4
    obtain ⟨rfl, rfl⟩ := h4
    clear h3
    go_wp2
    go_ret2
    exact ⟨rfl, hB.out⟩
  | true =>
    have h3 := H3.out
    rw [if_pos rfl] at h3
    split at h3
    · rename_i hi
      have h4 := Option.some.inj h3
      simp only [Prod.mk.injEq] at h4
      obtain ⟨rfl, rfl⟩ := h4
      obtain ⟨ad, hA, k0, k1⟩ := at_T71 F2.out.2.1 i hi.1 hi.2
      subst hA
      have p0 := eq_true hi.1
      have p1 := eq_true hi.2
      clear h3 hi
      go_wp2
      go_ret2
      exact ⟨rfl, hB.out⟩
    · cases h3
end Go.Proofs.YthbljhmjppjcjaaGreatDoor.Z
end

section
/- data.file: a chunk's bytes, the change by which a chunk has bytes. -/
namespace Go.Proofs.YthbljhmjppjcjaaGreatDoor.Z
open Go.RowKit Go.Proofs.YthbljhmjppjcjaaGreatDoorW.PrintWords Go.Proofs.YthbljhmjppjcjaaGreatDoorW.PrintLast Go.Proofs.YthbljhmjppjcjaaGreatDoorW.PrintMore
set_option linter.unusedVariables false
set_option linter.unusedSimpArgs false
/-- Bytes in memory. -/
def bb (l : List UInt8) : Obj := .cells (Lib.byteCells l).toArray 5 (0, 0)
/-- What there is behind a copy of s onto the place o, where there is room for n. -/
def over (l s : List UInt8) (o n : Nat) : List UInt8 := l.take o ++ s.take n ++ l.drop (o + min s.length n)
theorem byteCells_append (a b : List UInt8) : Lib.byteCells (a ++ b) = Lib.byteCells a ++ Lib.byteCells b := by simp [Lib.byteCells]
theorem over_len (l s : List UInt8) (o n : Nat) (h : o + n ≤ l.length) : (over l s o n).length = l.length := by
  unfold over
  simp only [List.length_append, List.length_take, List.length_drop]
  omega
theorem run_copy_str {P : Program} (w : World) (dT sT ty elem : TypeId) (g o dLen dCap : Nat) (s : ByteArray) (cur : Array Value) (t : TypeId)
    (hu : P.underlying dT = some (.slice elem)) (hs : (P.info? elem).map (·.size) = some 1) (hg : w.heap[g]? = some (.cells cur t (0, 0))) (hfit : o + dLen ≤ cur.size) :
    (Builtin.copy_ #[dT, sT] ty #[.slice (some ⟨g, o, none⟩) dLen dCap, .string s]).run P w =
      .ok (goInt (min s.size dLen : Nat)) (w.setRow g (cur.toList.take o ++ Lib.byteCells (s.data.toList.take dLen) ++ cur.toList.drop (o + min s.size dLen)).toArray) := by
  have hsz := Lib.size_eq s
  have hlen : (Lib.byteCells (s.data.toList.take dLen)).length = min s.size dLen := by rw [Lib.byteCells_length, List.length_take, ← hsz, Nat.min_comm]
  have hst := run_storeCells_at P g o t (Lib.byteCells (s.data.toList.take dLen)) 0 cur w hg (by rw [hlen]; simp; omega) (Lib.byteCells_one _)
  have htk : List.take (Nat.min s.size dLen) (List.map (fun b : UInt8 => Value.int IntKind.u8 (b.toNat : Int)) s.data.toList) = Lib.byteCells (s.data.toList.take dLen) := by
    unfold Lib.byteCells
    rw [List.map_take]
    have e : ∀ l : List Value, l.length = s.size → l.take (Nat.min s.size dLen) = l.take dLen := fun l hl => by
      by_cases h : s.size ≤ dLen
      · rw [show Nat.min s.size dLen = s.size from Nat.min_eq_left h, List.take_of_length_le (by omega), List.take_of_length_le (by omega)]
      · rw [show Nat.min s.size dLen = dLen from Nat.min_eq_right (by omega)]
    exact e _ (by rw [List.length_map, ← hsz])
  rw [hlen] at hst
  simp only [Nat.add_zero] at hst
  cases hq : P.info? elem with
  | none => simp [hq] at hs
  | some i =>
    simp [Builtin.copy_, run_underlying hu, Builtin.lenOf, Builtin.firstCells, sizeOf, typeInfo, hq]
    rw [htk, hst]
    simp [Result.andThen]
theorem copy_event {P : Program} {ops : Array Oper} {rest : List Oper} {o : Oper} {a : Act} {Q : Exit → Act → World → Prop} {W : World} (hgd : o.guard = none) (d x : Operand) (dT sT elem : TypeId) (hop : o.op = .call { callee := .builtin .copy, args := #[d, x], argTypes := #[dT, sT] })
    (hu : P.underlying dT = some (.slice elem)) (hs : (P.info? elem).map (·.size) = some 1) (g off dLen dCap : Nat) (hd : a.eval d = .slice (some ⟨g, off, none⟩) dLen dCap) (s : ByteArray) (hx : a.eval x = .string s) (cur : Array Value) (t : TypeId)
    (hg : W.heap[g]? = some (.cells cur t (0, 0))) (hfit : off + dLen ≤ cur.size)
    (h : wpList P ops Q rest (a.put o.dst (goInt (min s.size dLen : Nat))) (W.setRow g (cur.toList.take off ++ Lib.byteCells (s.data.toList.take dLen) ++ cur.toList.drop (off + min s.size dLen)).toArray)) : wpList P ops Q (o :: rest) a W := by
  refine wpList_plain hgd fun K hK => ?_
  have hrun := run_copy_str (P := P) W dT sT o.type elem g off dLen dCap s cur t hu hs hg hfit
  unfold Oper.wp
  simp [execOp, hop, resolve, invoke, builtin, hd, hx, hrun, Result.andThen]
  have h' := hK _ _ h
  simp only [List.append_assoc] at h'
  exact h'
/-- The copy, told of bytes. -/
theorem bb_copy {W : World} {g : Nat} {l : List UInt8} (h : W.heap[g]? = some (bb l)) (s : ByteArray) (o n : Nat) :
    (W.setRow g ((Lib.byteCells l).toArray.toList.take o ++ Lib.byteCells (s.data.toList.take n) ++ (Lib.byteCells l).toArray.toList.drop (o + min s.size n)).toArray).heap[g]? = some (bb (over l s.data.toList o n)) := by
  rw [setRow_heap _ g _ _ 5 (0, 0) h]
  unfold bb over
  rw [byteCells_append, byteCells_append, ← Lib.size_eq]
  simp only [Lib.byteCells, List.map_take, List.map_drop]
theorem lit_event {P : Program} {ops : Array Oper} {rest : List Oper} {o : Oper} {a : Act} {Q : Exit → Act → World → Prop} {W : World} {cs : Array Value} {t : TypeId} {n : Nat} (hgd : o.guard = none) (hrun : (execOp a.eval o).run P W = .ok (.value (.slice (some ⟨W.heap.size, 0, none⟩) n n)) (W.alloc (.cells cs t (0, 0))))
    (h : ∀ g, g = W.heap.size → ∀ w1, w1.heap[g]? = some (.cells cs t (0, 0)) → Below W.heap.size W w1 → wpList P ops Q rest (a.put o.dst (.slice (some ⟨g, 0, none⟩) n n)) w1) : wpList P ops Q (o :: rest) a W :=
  Kd.event_run hgd hrun (h _ rfl _ (blk_new W _) (below_alloc (Below.refl _ _) _))
/-- A chunk's bytes, filled up. -/
def padL (s : ByteArray) : List UInt8 := over (List.replicate 128 0) s.data.toList 0 128
theorem padL_len (s : ByteArray) : (padL s).length = 128 := by rw [padL, over_len _ _ _ _ (by simp)]; simp
def bytesF (k : Nat) (ino : Int) (l : List S71) (c : Int) : Option (List UInt8) := (keptF k ino l c).bind fun p => some (padL p.1)
theorem bytesF.mono (ino : Int) (l : List S71) (c : Int) : ∀ k, LeO (bytesF k ino l c) (bytesF (k + 1) ino l c) := fun k => by
  unfold bytesF
  exact LeO.bind (keptF.mono _ _ _ _) (fun _ => LeO.refl _)
theorem made128 : madeCells (Value.int .u8 0).cells (128 * 1) = (Lib.byteCells (List.replicate 128 0)).toArray := by kernel_rfl
theorem info_u8 : (Tryz.prog.info? 5).map (fun i => (i.zero, i.size, i.bytes)) = some (some (.int .u8 0), 1, 1) := by kernel_rfl
theorem make128 (w : World) : (Instr.makeSlice 58 (.int .i64 128) (.int .i64 128)).run Tryz.prog w = .ok (.slice (some ⟨w.heap.size, 0, none⟩) 128 128) (w.alloc (.cells (Lib.byteCells (List.replicate 128 0)).toArray 5 (0, 0))) := by
  obtain ⟨i, hi, hz, hs, hb⟩ := info_parts info_u8
  have h := run_makeSlice (w := w) 58 5 i (.int .u8 0) Tryz.underlying58 hi hz .i64 .i64 128 128 (by decide) (by decide) (by rw [hs]; decide) (by rw [hb]; decide) (by decide)
  rw [hs] at h
  rw [h]
  exact congrArg (fun c => Result.ok (Value.slice (some ⟨w.heap.size, 0, none⟩) 128 128) (w.alloc (.cells c 5 (0, 0)))) made128
theorem size_u8 : (Tryz.prog.info? 5).map (·.size) = some 1 := by kernel_rfl
set_option maxRecDepth 100000 in
set_option maxHeartbeats 3200000 in
theorem bytes_calls (k : Nat) (g : Nat) (ino c : Int) (A : Option Addr) (cp : Nat) (l : List S71) (r : List UInt8) (w : World) (hF : FileAt w g ino A cp l) (h : bytesF k ino l c = some r) :
    Calls Tryz.prog 17 #[.pointer (some ⟨g, 0, none⟩), .int .i64 c] w fun e w' => ∃ gb, e = .returned (.slice (some ⟨gb, 0, none⟩) 128 128) ∧ w.heap.size ≤ gb ∧ w'.heap[gb]? = some (bb r) ∧ Below w.heap.size w w' := by
  unfold bytesF at h
  obtain ⟨⟨s, is⟩, h1, h⟩ := Option.bind_eq_some_iff.mp h
  obtain rfl := Option.some.inj h
  have HF := Aside0.mk hF
  have H1 := Aside0.mk h1
  have mk := make128 w
  clear h h1 hF
  go_enter Tryz.func17, Tryz.ntmps17
  go_wp2_with (first
    | ((with_reducible refine gate_dst (N := 8) rfl ?_); refine lit_event (cs := (Lib.byteCells (List.replicate 128 0)).toArray) (t := 5) (n := 128) ?hg ?hr ?_; (case hg => rfl); (case hr => first | (go_simp; done) | (go_simp; rfl)); intro gb hgb w1 hx hb; have BX := Aside0.mk (show w1.heap[gb]? = some (bb (List.replicate 128 0)) from hx); have BB := Aside0.mk hb; have GG := Aside0.mk (show w.heap.size ≤ gb by omega); clear hx hb hgb mk)
    | (go_at_call 45; refine (kept_calls k g ino c A cp l s is _ (HF.out.below BB.out) H1.out).mono ?_; rintro e w2 ⟨rfl, hb⟩; have BX2 := Aside0.mk (blk_below BX.out hb); have B2 := Aside0.mk (below_step BB.out hb); clear hb)
    | (refine copy_event rfl (.tmp 15) (.tmp 16) 58 9 5 rfl Tryz.underlying58 size_u8 gb 0 128 128 rfl s rfl _ 5 BX2.out (by simp [Lib.byteCells]) ?_; generalize hw3 : World.setRow w2 gb _ = w3; have BX3 := Aside0.mk (show w3.heap[gb]? = some (bb (padL s)) by rw [← hw3]; exact bb_copy BX2.out s 0 128); have B3 := Aside0.mk (show Below w.heap.size w w3 by rw [← hw3]; exact below_setRow B2.out GG.out _); clear hw3))
  go_ret
  exact ⟨gb, rfl, GG.out, BX3.out, B3.out⟩
def keepF (k : Nat) (ino : Int) (l : List S71) (c : Int) (b : ByteArray) : Option (List S41) := (strings_TrimRight.f b ⟨#[0]⟩).bind fun t => (keptF k ino l c).bind fun p =>
  if p.2 = (!t.toList.isEmpty) ∧ p.1.toList = t.toList then some [] else (keyF k ino c).bind fun kk => some [⟨kk, !t.toList.isEmpty, t⟩]
theorem keepF.mono (ino : Int) (l : List S71) (c : Int) (b : ByteArray) : ∀ k, LeO (keepF k ino l c b) (keepF (k + 1) ino l c b) := fun k => by
  unfold keepF
  exact LeO.bind (LeO.refl _) (fun _ => LeO.bind (keptF.mono _ _ _ _) (fun _ => LeO.ite (LeO.refl _) (LeO.bind (keyF.mono _ _ _) (fun _ => LeO.refl _))))
set_option maxRecDepth 100000 in
set_option maxHeartbeats 3200000 in
theorem keep_calls (k : Nat) (g : Nat) (ino c : Int) (b : ByteArray) (A : Option Addr) (cp : Nat) (l : List S71) (r : List S41) (w : World) (hF : FileAt w g ino A cp l) (h : keepF k ino l c b = some r) :
    Calls Tryz.prog 18 #[.pointer (some ⟨g, 0, none⟩), .int .i64 c, .string b] w fun e w' => ∃ v, e = .returned v ∧ k41.R 41 w' w.heap.size (fun _ => True) v r ∧ Below w.heap.size w w' := by
  unfold keepF at h
  obtain ⟨t, h0, h⟩ := Option.bind_eq_some_iff.mp h
  obtain ⟨⟨s, is⟩, h1, h⟩ := Option.bind_eq_some_iff.mp h
  have HF := Aside0.mk hF
  have H0 := Aside0.mk h0
  have H1 := Aside0.mk h1
  clear h0 h1 hF
  by_cases hc : is = (!t.toList.isEmpty) ∧ s.toList = t.toList
  · rw [if_pos hc] at h
    obtain rfl := Option.some.inj h
    have c0 := hc.1
    have c1 : (s.toList == t.toList) = true := beq_iff_eq.2 hc.2
    clear hc h
    go_enter Tryz.func18, Tryz.ntmps18
    go_wp2_with (first
          | (go_at_call 46; refine (strings_TrimRight.calls b ⟨#[0]⟩ t _ H0.out).mono ?_; rintro e w1 ⟨rfl, ⟨nd, hnd⟩⟩; have B1 := Aside0.mk (show Below w.heap.size w w1 by rw [hnd]; exact pw_below_drewN (Below.refl _ _) nd); clear hnd)
          | (go_at_call 45; refine (kept_calls k g ino c A cp l s is _ (HF.out.below B1.out) H1.out).mono ?_; rintro e w2 ⟨rfl, hb⟩; have B2 := Aside0.mk (below_step B1.out hb); clear hb))
    go_ret
    exact ⟨_, rfl, Kd.R_nil _ _ _ _ _, B2.out⟩
  · rw [if_neg hc] at h
    obtain ⟨kk, h2, h⟩ := Option.bind_eq_some_iff.mp h
    obtain rfl := Option.some.inj h
    have H2 := Aside0.mk h2
    clear h h2
    by_cases c0 : is = (!t.toList.isEmpty)
    · have c1 : (s.toList == t.toList) = false := beq_eq_false_iff_ne.2 (fun e => hc ⟨c0, e⟩)
      clear hc
      go_enter Tryz.func18, Tryz.ntmps18
      go_wp2_with (first
            | (go_at_call 46; refine (strings_TrimRight.calls b ⟨#[0]⟩ t _ H0.out).mono ?_; rintro e w1 ⟨rfl, ⟨nd, hnd⟩⟩; have B1 := Aside0.mk (show Below w.heap.size w w1 by rw [hnd]; exact pw_below_drewN (Below.refl _ _) nd); clear hnd)
            | (go_at_call 45; refine (kept_calls k g ino c A cp l s is _ (HF.out.below B1.out) H1.out).mono ?_; rintro e w2 ⟨rfl, hb⟩; have B2 := Aside0.mk (below_step B1.out hb); clear hb)
            | (go_at_call 47; refine (key_calls k g ino c A cp l kk _ (HF.out.below B2.out) H2.out).mono ?_; rintro e w3 ⟨rfl, hb⟩; have B3 := Aside0.mk (below_step B2.out hb); clear hb)
            | ((with_reducible refine gate_dst (N := 33) rfl ?_); refine Kd.R_lit k41 _ 41 ?hg (N := 33) ?hd (xs := [(⟨kk, !t.toList.isEmpty, t⟩ : S41)]) (inner := [.string kk, .bool (!t.toList.isEmpty), .string t]) (ok := fun _ => True) (okp := fun _ => True) ?hr ?hp (fun _ hk => hk) trivial (Below.refl _ _) (Nat.le_refl _) (by simp) ?_; (case hd => rfl); (case hg => rfl); (case hr => first | (go_simp; done) | (go_simp; rfl)); (case hp => exact (Reps.c3 (show Kd.M k41 _ _ _ (⟨kk, !t.toList.isEmpty, t⟩ : S41) [.string kk, .bool (!t.toList.isEmpty), .string t] from (k41_mkM _ _ _ (⟨kk, !t.toList.isEmpty, t⟩ : S41) )) (Reps.none _ _))); intro v w4 ho hb hg_ hnew_; have HO := Aside0.mk (Kd.R_lower ho B3.out.size); have B4 := Aside0.mk (below_step B3.out hb); clear ho hb hg_ hnew_))
      go_ret
      exact ⟨_, rfl, HO.out, B4.out⟩
    · clear hc
      go_enter Tryz.func18, Tryz.ntmps18
      go_wp2_with (first
            | (go_at_call 46; refine (strings_TrimRight.calls b ⟨#[0]⟩ t _ H0.out).mono ?_; rintro e w1 ⟨rfl, ⟨nd, hnd⟩⟩; have B1 := Aside0.mk (show Below w.heap.size w w1 by rw [hnd]; exact pw_below_drewN (Below.refl _ _) nd); clear hnd)
            | (go_at_call 45; refine (kept_calls k g ino c A cp l s is _ (HF.out.below B1.out) H1.out).mono ?_; rintro e w2 ⟨rfl, hb⟩; have B2 := Aside0.mk (below_step B1.out hb); clear hb)
            | (go_at_call 47; refine (key_calls k g ino c A cp l kk _ (HF.out.below B2.out) H2.out).mono ?_; rintro e w3 ⟨rfl, hb⟩; have B3 := Aside0.mk (below_step B2.out hb); clear hb)
            | ((with_reducible refine gate_dst (N := 33) rfl ?_); refine Kd.R_lit k41 _ 41 ?hg (N := 33) ?hd (xs := [(⟨kk, !t.toList.isEmpty, t⟩ : S41)]) (inner := [.string kk, .bool (!t.toList.isEmpty), .string t]) (ok := fun _ => True) (okp := fun _ => True) ?hr ?hp (fun _ hk => hk) trivial (Below.refl _ _) (Nat.le_refl _) (by simp) ?_; (case hd => rfl); (case hg => rfl); (case hr => first | (go_simp; done) | (go_simp; rfl)); (case hp => exact (Reps.c3 (show Kd.M k41 _ _ _ (⟨kk, !t.toList.isEmpty, t⟩ : S41) [.string kk, .bool (!t.toList.isEmpty), .string t] from (k41_mkM _ _ _ (⟨kk, !t.toList.isEmpty, t⟩ : S41) )) (Reps.none _ _))); intro v w4 ho hb hg_ hnew_; have HO := Aside0.mk (Kd.R_lower ho B3.out.size); have B4 := Aside0.mk (below_step B3.out hb); clear ho hb hg_ hnew_))
      go_ret
      exact ⟨_, rfl, HO.out, B4.out⟩
end Go.Proofs.YthbljhmjppjcjaaGreatDoor.Z
end

section
/- data.open: an inode's chunks. -/
namespace Go.Proofs.YthbljhmjppjcjaaGreatDoor.Z
open Go.RowKit Go.Proofs.YthbljhmjppjcjaaGreatDoorW.PrintWords Go.Proofs.YthbljhmjppjcjaaGreatDoorW.PrintLast Go.Proofs.YthbljhmjppjcjaaGreatDoorW.PrintMore
set_option linter.unusedVariables false
set_option linter.unusedSimpArgs false
def openF (k : Nat) (l : List IT) (ino : Int) : Option (List IT × Int) := (inode_Prefix.f k 3 ino).bind fun p => (item_Under.f k l p).bind fun u => (delF k u.1).bind fun d => some (d, if u.2 = 0 ∧ ino = 0 then 1 else u.2)
theorem openF.mono (l : List IT) (ino : Int) : ∀ k, LeO (openF k l ino) (openF (k + 1) l ino) := fun k => by
  unfold openF
  exact LeO.bind (inode_Prefix.mono _ _ _) (fun _ => LeO.bind (item_Under.mono _ _ _) (fun _ => LeO.bind (delF.mono _ _) (fun _ => LeO.refl _)))
set_option maxRecDepth 100000 in
set_option maxHeartbeats 3200000 in
theorem open_calls (k : Nat) (A : Option Addr) (cp : Nat) (l : List IT) (ino : Int) (r1 : List IT) (r2 : Int) (w : World) (hC : Kd.C k71 w A l.length l) (hc : l.length ≤ cp) (h : openF k l ino = some (r1, r2)) :
    Calls Tryz.prog 16 #[.slice A l.length cp, .int .u32 ino] w fun e w' => ∃ g A' c', e = .returned (.tuple #[.pointer (some ⟨g, 0, none⟩), .int .i64 r2]) ∧ FileAt w' g ino A' c' r1 ∧ w.heap.size ≤ g ∧ Below w.heap.size w w' := by
  unfold openF at h
  obtain ⟨p, h1, h⟩ := Option.bind_eq_some_iff.mp h
  obtain ⟨⟨u1, u2⟩, h2, h⟩ := Option.bind_eq_some_iff.mp h
  obtain ⟨d, h3, h⟩ := Option.bind_eq_some_iff.mp h
  have h4 := Option.some.inj h
  simp only [Prod.mk.injEq] at h4
  obtain ⟨rfl, rfl⟩ := h4
  have H1 := Aside0.mk h1
  have H2 := Aside0.mk h2
  have H3 := Aside0.mk h3
  have HC := Aside0.mk hC
  have HP := Aside0.mk hc
  clear h h1 h2 h3 hC hc
  by_cases c0 : u2 = 0
  · subst c0
    by_cases c1 : ino = 0
    · subst c1
      go_enter Tryz.func16, Tryz.ntmps16
      go_wp2_with (first
        | (go_at_call 23; refine (inode_Prefix.calls k 3 0 p _ H1.out).mono ?_; rintro e w1 ⟨rfl, hb⟩; have B1 := Aside0.mk hb; clear hb)
        | (go_at_call 41; refine (item_Under.calls k A cp l p u1 0 _ (Kd.C_below HC.out B1.out) HP.out H2.out).mono ?_; rintro e w2 ⟨v2, rfl, ho, hb⟩; have R2 := Aside0.mk (Kd.R_lower ho B1.out.size); have B2 := Aside0.mk (below_step B1.out hb); clear hb ho)
        | (go_at_call 42; refine (del_calls k v2 u1 d w _ B2.out R2.out H3.out).mono ?_; rintro e w3 ⟨A3, c3, rfl, hc3, hC3, hb⟩; have C3 := Aside0.mk hC3; have P3 := Aside0.mk hc3; have B3 := Aside0.mk hb; clear hb hC3 hc3)
        | ((with_reducible refine gate_dst (N := 26) rfl ?_); refine box_event ?hg (N := 26) ?hd (cs := #[.int .u32 0, .slice A3 d.length c3]) (t := 111) ?hr ?_; (case hd => rfl); (case hg => rfl); (case hr => first | (go_simp; done) | (go_simp; rfl)); intro g hg w4 hx hb; have F4 := Aside0.mk (show FileAt w4 g 0 A3 c3 d from ⟨hx, Kd.C_below C3.out hb, P3.out⟩); have B4 := Aside0.mk (below_step B3.out hb); have GG := Aside0.mk (show w.heap.size ≤ g by have := B3.out.size; omega); clear hx hb hg))
      go_ret2
      first | exact ⟨g, A3, c3, by rfl, F4.out, GG.out, B4.out⟩ | exact ⟨g, by first | rfl | simp, ⟨A3, c3, F4.out⟩, GG.out, B4.out⟩
    · have k1 : (ino == 0) = false := beq_eq_false_iff_ne.2 c1
      have k2 : (if (0 : Int) = 0 ∧ ino = 0 then (1 : Int) else 0) = 0 := if_neg (fun h => c1 h.2)
      rw [k2]
      clear c1
      go_enter Tryz.func16, Tryz.ntmps16
      go_wp2_with (first
        | (go_at_call 23; refine (inode_Prefix.calls k 3 ino p _ H1.out).mono ?_; rintro e w1 ⟨rfl, hb⟩; have B1 := Aside0.mk hb; clear hb)
        | (go_at_call 41; refine (item_Under.calls k A cp l p u1 0 _ (Kd.C_below HC.out B1.out) HP.out H2.out).mono ?_; rintro e w2 ⟨v2, rfl, ho, hb⟩; have R2 := Aside0.mk (Kd.R_lower ho B1.out.size); have B2 := Aside0.mk (below_step B1.out hb); clear hb ho)
        | (go_at_call 42; refine (del_calls k v2 u1 d w _ B2.out R2.out H3.out).mono ?_; rintro e w3 ⟨A3, c3, rfl, hc3, hC3, hb⟩; have C3 := Aside0.mk hC3; have P3 := Aside0.mk hc3; have B3 := Aside0.mk hb; clear hb hC3 hc3)
        | ((with_reducible refine gate_dst (N := 26) rfl ?_); refine box_event ?hg (N := 26) ?hd (cs := #[.int .u32 ino, .slice A3 d.length c3]) (t := 111) ?hr ?_; (case hd => rfl); (case hg => rfl); (case hr => first | (go_simp; done) | (go_simp; rfl)); intro g hg w4 hx hb; have F4 := Aside0.mk (show FileAt w4 g ino A3 c3 d from ⟨hx, Kd.C_below C3.out hb, P3.out⟩); have B4 := Aside0.mk (below_step B3.out hb); have GG := Aside0.mk (show w.heap.size ≤ g by have := B3.out.size; omega); clear hx hb hg))
      go_ret2
      first | exact ⟨g, A3, c3, by rfl, F4.out, GG.out, B4.out⟩ | exact ⟨g, by first | rfl | simp, ⟨A3, c3, F4.out⟩, GG.out, B4.out⟩
  · have k1 : (u2 == 0) = false := beq_eq_false_iff_ne.2 c0
    have k2 : (if u2 = 0 ∧ ino = 0 then (1 : Int) else u2) = u2 := if_neg (fun h => c0 h.1)
    rw [k2]
    clear c0
    go_enter Tryz.func16, Tryz.ntmps16
    go_wp2_with (first
      | (go_at_call 23; refine (inode_Prefix.calls k 3 ino p _ H1.out).mono ?_; rintro e w1 ⟨rfl, hb⟩; have B1 := Aside0.mk hb; clear hb)
      | (go_at_call 41; refine (item_Under.calls k A cp l p u1 u2 _ (Kd.C_below HC.out B1.out) HP.out H2.out).mono ?_; rintro e w2 ⟨v2, rfl, ho, hb⟩; have R2 := Aside0.mk (Kd.R_lower ho B1.out.size); have B2 := Aside0.mk (below_step B1.out hb); clear hb ho)
      | (go_at_call 42; refine (del_calls k v2 u1 d w _ B2.out R2.out H3.out).mono ?_; rintro e w3 ⟨A3, c3, rfl, hc3, hC3, hb⟩; have C3 := Aside0.mk hC3; have P3 := Aside0.mk hc3; have B3 := Aside0.mk hb; clear hb hC3 hc3)
      | ((with_reducible refine gate_dst (N := 26) rfl ?_); refine box_event ?hg (N := 26) ?hd (cs := #[.int .u32 ino, .slice A3 d.length c3]) (t := 111) ?hr ?_; (case hd => rfl); (case hg => rfl); (case hr => first | (go_simp; done) | (go_simp; rfl)); intro g hg w4 hx hb; have F4 := Aside0.mk (show FileAt w4 g ino A3 c3 d from ⟨hx, Kd.C_below C3.out hb, P3.out⟩); have B4 := Aside0.mk (below_step B3.out hb); have GG := Aside0.mk (show w.heap.size ≤ g by have := B3.out.size; omega); clear hx hb hg))
    go_ret2
    first | exact ⟨g, A3, c3, by rfl, F4.out, GG.out, B4.out⟩ | exact ⟨g, by first | rfl | simp, ⟨A3, c3, F4.out⟩, GG.out, B4.out⟩
end Go.Proofs.YthbljhmjppjcjaaGreatDoor.Z
end
