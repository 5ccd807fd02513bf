/- TopWritten: at every input the law's function returns true and leaves its arguments as they were; no condition beyond the row's own. Part 2 of 3: this session's own texts, laid together. -/
import Derived.Test.YthbljhmjppjcjaaDoorMTopWritten1
import Derived.Deep.RegionHeld3
import Derived.Deep.DrawnRows
import Derived.LoopTactic
import Derived.Lib.IndexLaws
import Derived.Lib.SmallJoins
import Derived.Lib.Join
import Derived.RangeFuncNested
import Derived.RangeFuncBound
import Derived.RangeFuncCalls
import Derived.RangeFuncLeaves
import Derived.Shelf.Abstract
import Derived.Shelf.RegionOpen
import Derived.WalkKit
import Derived.OwnWalkIn
import Derived.TacticsInMore
import Derived.LoopNIn
import Derived.LoopIn
import Derived.Laws.LoneSync
section
/- A device at work, behind a pointer: where a block is, the fuse, a block put on the medium. -/
namespace Go.Proofs.YthbljhmjppjcjaaDoor.Z
open Go.RowKit Go.Proofs.YthbljhmjppjcjaaDoorW.PrintWords Go.Proofs.YthbljhmjppjcjaaDoorW.PrintLast Go.Proofs.YthbljhmjppjcjaaDoorW.PrintMore
set_option linter.unusedVariables false
set_option linter.unusedSimpArgs false
attribute [local go_sem ↓] Go.wp_at_zero Go.wp_at_succ
abbrev Blk := S60
def drv (s : Int) (vB vW : Value) (d : Bool) (f n : Int) : Obj := .cells #[.int .u32 s, vB, vW, .bool d, .int .i64 f, .int .u64 n] 57 (0, 0)
abbrev Own (w : World) (base : Nat) (ok : Nat → Prop) (v : Value) (l : List Blk) : Prop := Kd.R k60 60 w base ok v l
set_option maxRecDepth 100000 in
theorem place_calls (k : Nat) (g : Nat) (s : Int) (vB vW : Value) (d : Bool) (f n : Int) (bl : List Blk) (base : Nat) (ok : Nat → Prop) (num r1 : Int) (r2 : Bool) (w : World) (hb : w.heap[g]? = some (drv s vB vW d f n)) (hR : Own w base ok vB bl)
    (h : slices_BinarySearchFunc_api_Block_api_Block_uint32_fn47.f k bl num = some (r1, r2)) :
    Calls Tryd.prog 30 #[.pointer (some ⟨g, 0, none⟩), .int .u32 num] w fun e w' => e = .returned (.tuple #[.int .i64 r1, .bool r2]) ∧ Below w.heap.size w w' := by
  obtain ⟨A, c, rfl⟩ := Kd.R_slice hR
  obtain ⟨_, hc, hC⟩ := Kd.R_reads' hR
  have q1 : w.cell? ⟨g, 1, none⟩ = some (.slice A bl.length c) := (blk_cell hb 1).trans rfl
  have HC := Aside0.mk hC
  have H := Aside0.mk h
  have HL := Aside0.mk hc
  clear hC h hc hR hb
  go_enter Tryd.func30, Tryd.ntmps30
  go_wp2_with (go_at_call 46; refine (slices_BinarySearchFunc_api_Block_api_Block_uint32_fn47.calls k A c bl num r1 r2 _ HC.out HL.out H.out).mono ?_; rintro e w1 ⟨rfl, h1⟩; have HB1 := Aside0.mk h1; clear h1)
  go_ret2
  exact ⟨rfl, HB1.out⟩
def downOf (d : Bool) (f : Int) : Bool := d || (f == 0)
def fuseOf (f : Int) : Int := if 0 < f then wrap64 (f - 1) else f
set_option maxRecDepth 100000 in
set_option maxHeartbeats 1600000 in
theorem burn_calls (g : Nat) (s : Int) (vB vW : Value) (d : Bool) (f n : Int) (w : World) (hb : w.heap[g]? = some (drv s vB vW d f n)) :
    Calls Tryd.prog 17 #[.pointer (some ⟨g, 0, none⟩)] w fun e w' => e = .returned (.bool (!downOf d f)) ∧ Step g w w' (drv s vB vW (downOf d f) (fuseOf f) n) := by
  have q3 : w.cell? ⟨g, 3, none⟩ = some (.bool d) := (blk_cell hb 3).trans rfl
  have q4 : w.cell? ⟨g, 4, none⟩ = some (.int .i64 f) := (blk_cell hb 4).trans rfl
  have f3 : w.frozen? ⟨g, 3, none⟩ = false := blk_frozen hb 3
  have f4 : w.frozen? ⟨g, 4, none⟩ = false := blk_frozen hb 4
  have hnot : ∀ (x : Bool) (w : World), (Op.unary .not (.bool x)).run Tryd.prog w = .ok (.bool (!x)) w := fun _ _ => rfl
  by_cases h0 : f = 0
  · subst h0
    have HS : Aside0 (Step g w (w.setCell ⟨g, 3, none⟩ (.bool true)) (drv s vB vW true 0 n)) := ⟨(Step.refl hb).set 3 _ rfl⟩
    have e1 : downOf d 0 = true := by unfold downOf; simp
    have e2 : fuseOf 0 = 0 := rfl
    rw [e1, e2]
    clear hb
    go_enter Tryd.func17, Tryd.ntmps17
    go_wp2
    go_ret
    exact ⟨rfl, HS.out⟩
  · have e1 : downOf d f = d := by unfold downOf; simp [h0]
    have h0b : (f == 0) = false := by simpa using h0
    rw [e1]
    by_cases h1 : 0 < f
    · have e2 : fuseOf f = wrap64 (f - 1) := if_pos h1
      have h1b : decide (0 < f) = true := decide_eq_true h1
      have HS : Aside0 (Step g w (w.setCell ⟨g, 4, none⟩ (.int .i64 (wrap64 (f - 1)))) (drv s vB vW d (wrap64 (f - 1)) n)) := ⟨(Step.refl hb).set 4 _ rfl⟩
      rw [e2]
      clear hb e1 e2 h0
      go_enter Tryd.func17, Tryd.ntmps17
      go_wp2
      go_ret
      exact ⟨rfl, HS.out⟩
    · have e2 : fuseOf f = f := if_neg h1
      have h1b : decide (0 < f) = false := decide_eq_false h1
      have HS : Aside0 (Step g w w (drv s vB vW d f n)) := ⟨Step.refl hb⟩
      rw [e2]
      clear hb e1 e2 h0
      go_enter Tryd.func17, Tryd.ntmps17
      go_wp2
      go_ret
      exact ⟨rfl, HS.out⟩
def putF (k : Nat) (bl : List Blk) (x : Blk) : Option (List Blk) :=
  (slices_BinarySearchFunc_api_Block_api_Block_uint32_fn47.f k bl x.f0).bind fun p =>
    if p.2 = true then (if x.f1.toList = [] then slices_Delete_api_Block_api_Block.f bl p.1 (p.1 + 1) else if 0 ≤ p.1 ∧ p.1 < (bl.length : Int) then some (bl.set p.1.toNat x) else none)
    else if x.f1.toList = [] then some bl else slices_Insert_api_Block_api_Block.f bl p.1 [x]
theorem putF_mono : ∀ a0 a1 k, LeO (putF k a0 a1) (putF (k + 1) a0 a1) := by
  intro a0 a1 k
  unfold putF
  exact LeO.bind (slices_BinarySearchFunc_api_Block_api_Block_uint32_fn47.mono _ _ _) (fun _ => LeO.refl _)
/-- A row that lies elsewhere than a block of another type. -/
theorem own_ne {w : World} {base : Nat} {ok : Nat → Prop} {v : Value} {l : List Blk} {g : Nat} {cs : Array Value} {t : Nat} (h : Own w base ok v l) (hb : w.heap[g]? = some (.cells cs t (0, 0))) (ht : 60 ≠ t) : some g ≠ v.ownBlock := by
  intro e
  have := Kd.R_types h hb (by intro q hq; simp [k60_E] at hq; subst hq; exact ht)
  exact (this.1 g e.symm).2 rfl
theorem put_end {s : Int} {vB vW v : Value} {d : Bool} {f n : Int} {g : Nat} {w0 w w3 : World} {ok ok' : Nat → Prop} {l : List Blk} (hb : w3.heap[g]? = some (drv s vB vW d f n)) (hR : Own w3 w0.heap.size ok v l) (hB : Below w0.heap.size w0 w3)
    (hK : Kept w w3 (fun k => k = g ∨ some k = vB.ownBlock)) (hg : w0.heap.size ≤ g) (ho : ∀ k, ok k → ok' k) :
    ∃ v_, (w3.setCell ⟨g, 1, none⟩ v).heap[g]? = some (drv s v_ vW d f n) ∧ Own (w3.setCell ⟨g, 1, none⟩ v) w0.heap.size ok' v_ l ∧ Below w0.heap.size w0 (w3.setCell ⟨g, 1, none⟩ v) ∧ Kept w (w3.setCell ⟨g, 1, none⟩ v) (fun k => k = g ∨ some k = vB.ownBlock) :=
  ⟨v, blk_set hb 1 v, Kd.R_mono (Kd.R_far (p := ⟨g, 1, none⟩) (Kd.R_types hR hb (by decide)) (fun _ hk => hk.2) v) (fun k hk => ho k hk.1), hB.setCell (p := ⟨g, 1, none⟩) hg v, hK.setCell (p := ⟨g, 1, none⟩) (.inl (.inl rfl)) v⟩
/-- One element of a row is another one now. -/
theorem reps_set {w : World} {base : Nat} {ok : Nat → Prop} {xs : List Blk} {cs : List Value} {j : Nat} {x : Blk} (h : Reps (k60.M w base ok) k60.sz xs cs) (hj : j < xs.length) :
    Reps (k60.M w base ok) k60.sz (xs.set j x) ((cs.set (j * 2) (.int .u32 x.f0)).set (j * 2 + 1) (.string x.f1)) := by
  obtain ⟨h1, h2⟩ := h
  rw [k60_sz] at h1 h2 ⊢
  refine ⟨by simpa using h1, fun i y hy => ?_⟩
  by_cases hi : i = j
  · subst hi
    rw [List.getElem?_set_self hj] at hy
    obtain rfl := Option.some.inj hy
    have hq : (((cs.set (i * 2) (.int .u32 x.f0)).set (i * 2 + 1) (.string x.f1)).drop (i * 2)).take 2 = [.int .u32 x.f0, .string x.f1] := by
      apply List.ext_getElem?
      intro m
      rw [List.getElem?_take]
      match m with
      | 0 => rw [if_pos (by omega), List.getElem?_drop, List.getElem?_set_ne (by omega), Nat.add_zero, List.getElem?_set_self (by omega)]; rfl
      | 1 => rw [if_pos (by omega), List.getElem?_drop, List.getElem?_set_self (by rw [List.length_set]; omega)]; rfl
      | m + 2 => rw [if_neg (by omega)]; rfl
    rw [hq]
    exact k60_mkM _ _ _ x
  · rw [List.getElem?_set_ne (fun e => hi e.symm)] at hy
    have hq : (((cs.set (j * 2) (.int .u32 x.f0)).set (j * 2 + 1) (.string x.f1)).drop (i * 2)).take 2 = (cs.drop (i * 2)).take 2 := by
      apply List.ext_getElem?
      intro m
      rw [List.getElem?_take, List.getElem?_take]
      split
      · rw [List.getElem?_drop, List.getElem?_drop, List.getElem?_set_ne (by omega), List.getElem?_set_ne (by omega)]
      · rfl
    rw [hq]
    exact h2 i y hy
set_option maxRecDepth 100000 in
set_option maxHeartbeats 3200000 in
theorem put_calls (k : Nat) (g : Nat) (s : Int) (vB vW : Value) (d : Bool) (f n : Int) (bl : List Blk) (x : Blk) (r : List Blk) (w0 w : World) (hB : Below w0.heap.size w0 w) (hb : w.heap[g]? = some (drv s vB vW d f n)) (hg : w0.heap.size ≤ g) (hR : Own w w0.heap.size (fun _ => True) vB bl) (h : putF k bl x = some r) :
    Calls Tryd.prog 18 #[.pointer (some ⟨g, 0, none⟩), .agg #[.int .u32 x.f0, .string x.f1]] w fun e w' => e = .returned (.tuple #[]) ∧ ∃ v, w'.heap[g]? = some (drv s v vW d f n) ∧ Own w' w0.heap.size (fun k => some k = vB.ownBlock ∨ w.heap.size ≤ k) v r ∧ Below w0.heap.size w0 w' ∧ Kept w w' (fun k => k = g ∨ some k = vB.ownBlock) := by
  have hne := Aside0.mk (own_ne hR hb (by decide))
  have HD := Aside0.mk hb
  have HR := Aside0.mk hR
  have HB := Aside0.mk hB
  have HG := Aside0.mk hg
  have hlen : (bl.length : Int) ≤ 9223372036854775807 := by
    obtain ⟨A, c, rfl⟩ := Kd.R_slice hR
    obtain ⟨_, _, _, _, hC⟩ := Kd.R_reads hR
    have := Kd.C_max hC
    omega
  unfold putF at h
  replace h := Option.bind_eq_some_iff.mp h
  obtain ⟨⟨i, is⟩, hs, h⟩ := h
  have HS := Aside0.mk hs
  clear hs hb hR hB hg
  have h0 := h
  clear h
  have h : (if is = true then (if x.f1.toList = [] then slices_Delete_api_Block_api_Block.f bl i (i + 1) else if 0 ≤ i ∧ i < (bl.length : Int) then some (bl.set i.toNat x) else none)
    else if x.f1.toList = [] then some bl else slices_Insert_api_Block_api_Block.f bl i [x]) = some r := h0
  clear h0
  cases is with
  | true =>
    rw [if_pos rfl] at h
    by_cases hx : x.f1.toList = []
    · rw [if_pos hx] at h
      have hxb : (x.f1.toList == ([] : List UInt8)) = true := beq_iff_eq.mpr hx
      have hir : 0 ≤ i ∧ i < (bl.length : Int) := by
        unfold slices_Delete_api_Block_api_Block.f at h
        split at h
        · rename_i hh; exact ⟨hh.1, hh.2.1⟩
        · cases h
      have hw : IntKind.i64.wrap (i + 1) = i + 1 := by rw [IntKind.wrap_i64]; omega
      have H := Aside0.mk h
      clear h hx hlen hir
      go_enter Tryd.func18, Tryd.ntmps18
      go_wp2_with (first
        | ((with_reducible refine gate_dst (N := 3) rfl ?_); refine bx_ (N := 3) (cs := #[.int .u32 x.f0, .string x.f1]) (t := 60) ?_; intro gx hgx w1 hx hbx; have B1 := Aside0.mk (blk_below HD.out hbx); have R1 := Aside0.mk (Kd.R_below HR.out hbx); have X1 := Aside0.mk hx; have K1 := Aside0.mk (below_step HB.out hbx); have N1 := Aside0.mk (show w.heap.size ≤ gx by omega); have V1 := Aside0.mk (Kept.of_below hbx (fun k => k = g ∨ some k = vB.ownBlock)); have D1 := Aside0.mk hbx; have z0 : w1.cell? ⟨gx, 0, none⟩ = some (.int .u32 x.f0) := (blk_cell hx 0).trans rfl; clear hx hbx hgx)
        | (go_at_call 30; refine (place_calls k g s vB vW d f n bl _ _ x.f0 _ _ _ B1.out R1.out HS.out).mono ?_; rintro e w2 ⟨rfl, h2⟩; have B2 := Aside0.mk (blk_below B1.out h2); have R2 := Aside0.mk (Kd.R_below R1.out h2); have X2 := Aside0.mk (blk_below X1.out h2); have K2 := Aside0.mk (below_step K1.out h2); have V2 := Aside0.mk (V1.out.below h2); have D2 := Aside0.mk (below_step D1.out h2); have q1 : w2.cell? ⟨g, 1, none⟩ = some vB := (blk_cell B2.out 1).trans rfl; have f1 : w2.frozen? ⟨g, 1, none⟩ = false := blk_frozen B2.out 1; have y0 : w2.cell? ⟨gx, 0, none⟩ = some (.int .u32 x.f0) := (blk_cell X2.out 0).trans rfl; have y1 : w2.cell? ⟨gx, 1, none⟩ = some (.string x.f1) := (blk_cell X2.out 1).trans rfl; clear B1 R1 X1 K1 V1 D1 z0 h2))
      go_wp2_with (go_at_call 31; refine (slices_Delete_api_Block_api_Block.calls (fun k => some k = vB.ownBlock) vB bl i (i + 1) r w0 _ K2.out (Kd.R_tight k60_E R2.out) H.out).mono ?_; rintro e w3 ⟨v, rfl, hR3, hB3, hK3⟩; obtain ⟨A3, c3, rfl⟩ := Kd.R_slice hR3; have V3 := Aside0.mk (V2.out.then_ hK3 (fun k hk => .inl (.inr hk))); have B3 := Aside0.mk (blk_kept B2.out hK3 hne.out); have L3 := Aside0.mk V2.out.1; have R3 := Aside0.mk hR3; have C3 := Aside0.mk hB3; have p1 : w3.cell? ⟨g, 1, none⟩ = some vB := (blk_cell B3.out 1).trans rfl; have g1 : w3.frozen? ⟨g, 1, none⟩ = false := blk_frozen B3.out 1; clear q1 f1 y0 y1 hR3 hB3 hK3)
      go_end0
      exact ⟨rfl, put_end B3.out R3.out C3.out V3.out HG.out (fun k hk => hk.imp_right (fun q => Nat.le_trans L3.out q))⟩
    · rw [if_neg hx] at h
      have hxb : (x.f1.toList == ([] : List UInt8)) = false := beq_eq_false_iff_ne.mpr hx
      split at h
      case isFalse => cases h
      case isTrue hir =>
      obtain rfl := Option.some.inj h
      obtain ⟨j, rfl⟩ : ∃ j : Nat, i = j := ⟨i.toNat, (Int.toNat_of_nonneg hir.1).symm⟩
      have hj : j < bl.length := by omega
      have hi0 : (0 : Int) ≤ (j : Int) := hir.1
      have hi1 : (j : Int) < (bl.length : Int) := hir.2
      obtain ⟨gr, cap, cur, inner, hv, hbg, hok, hgr, hnc, hcm, hsz, hil, hti, hrep⟩ := R_row k60_E HR.out (by omega)
      clear h hx hlen hir
      rw [k60_sz] at hsz hil hti
      have hgg : g ≠ gr := fun e => hne.out (by rw [e, hv]; rfl)
      unfold maxLen at hcm
      go_enter Tryd.func18, Tryd.ntmps18
      go_wp2_with (first
        | ((with_reducible refine gate_dst (N := 3) rfl ?_); refine bx_ (N := 3) (cs := #[.int .u32 x.f0, .string x.f1]) (t := 60) ?_; intro gx hgx w1 hx hbx; have B1 := Aside0.mk (blk_below HD.out hbx); have R1 := Aside0.mk (Kd.R_below HR.out hbx); have X1 := Aside0.mk hx; have K1 := Aside0.mk (below_step HB.out hbx); have N1 := Aside0.mk (show w.heap.size ≤ gx by omega); have V1 := Aside0.mk (Kept.of_below hbx (fun k => k = g ∨ some k = vB.ownBlock)); have D1 := Aside0.mk hbx; have z0 : w1.cell? ⟨gx, 0, none⟩ = some (.int .u32 x.f0) := (blk_cell hx 0).trans rfl; clear hx hbx hgx)
        | (go_at_call 30; refine (place_calls k g s vB vW d f n bl _ _ x.f0 _ _ _ B1.out R1.out HS.out).mono ?_; rintro e w2 ⟨rfl, h2⟩; have B2 := Aside0.mk (blk_below B1.out h2); have R2 := Aside0.mk (Kd.R_below R1.out h2); have X2 := Aside0.mk (blk_below X1.out h2); have K2 := Aside0.mk (below_step K1.out h2); have V2 := Aside0.mk (V1.out.below h2); have D2 := Aside0.mk (below_step D1.out h2); have q1 : w2.cell? ⟨g, 1, none⟩ = some vB := (blk_cell B2.out 1).trans rfl; have f1 : w2.frozen? ⟨g, 1, none⟩ = false := blk_frozen B2.out 1; have y0 : w2.cell? ⟨gx, 0, none⟩ = some (.int .u32 x.f0) := (blk_cell X2.out 0).trans rfl; have y1 : w2.cell? ⟨gx, 1, none⟩ = some (.string x.f1) := (blk_cell X2.out 1).trans rfl; clear B1 R1 X1 K1 V1 D1 z0 h2))
      subst hv
      have G2 := blk_below hgr D2.out
      have hgx : gx ≠ gr := by have := blk_lt hgr; have := N1.out; omega
      have e1 : ∀ u v : Value, ((w2.setCell ⟨gr, j * 2, none⟩ u).setCell ⟨gr, j * 2 + 1, none⟩ v).heap[gr]? = some (.cells ((cur.setIfInBounds (j * 2) u).setIfInBounds (j * 2 + 1) v) 60 (0, 0)) := fun u v => blk_set (blk_set G2 _ _) _ _
      have r0 : (w2.cell? ⟨gr, j * 2, none⟩).isSome = true := row_some G2 _ (by rw [hsz]; omega)
      have r1 : (w2.cell? ⟨gr, j * 2 + 1, none⟩).isSome = true := row_some G2 _ (by rw [hsz]; omega)
      have s0 : w2.frozen? ⟨gr, j * 2, none⟩ = false := blk_frozen G2 _
      have s1 : w2.frozen? ⟨gr, j * 2 + 1, none⟩ = false := blk_frozen G2 _
      obtain ⟨c0, k0⟩ := Option.isSome_iff_exists.1 r0
      obtain ⟨c1, k1⟩ := Option.isSome_iff_exists.1 r1
      have far : ∀ q : Nat, q ≠ gr → ((w2.setCell ⟨gr, j * 2, none⟩ (.int .u32 x.f0)).setCell ⟨gr, j * 2 + 1, none⟩ (.string x.f1)).heap[q]? = w2.heap[q]? := fun q hq => (Below.heap_setCell _ ⟨gr, j * 2 + 1, none⟩ _ q hq).trans (Below.heap_setCell _ ⟨gr, j * 2, none⟩ _ q hq)
      have B3 := (far g hgg).trans B2.out
      have X3 := (far gx hgx).trans X2.out
      have HK := And.intro ((blk_cell B3 1).trans (show _ = some (Value.slice (some ⟨gr, 0, none⟩) bl.length cap) from rfl)) (And.intro ((blk_cell X3 0).trans (show _ = some (Value.int .u32 x.f0) from rfl)) ((blk_cell X3 1).trans (show _ = some (Value.string x.f1) from rfl)))
      have HE : ∃ v, ((w2.setCell ⟨gr, j * 2, none⟩ (.int .u32 x.f0)).setCell ⟨gr, j * 2 + 1, none⟩ (.string x.f1)).heap[g]? = some (drv s v vW d f n) ∧ Own ((w2.setCell ⟨gr, j * 2, none⟩ (.int .u32 x.f0)).setCell ⟨gr, j * 2 + 1, none⟩ (.string x.f1)) w0.heap.size (fun k => some k = (Value.slice (some ⟨gr, 0, none⟩) bl.length cap).ownBlock ∨ w.heap.size ≤ k) v (bl.set j x) ∧
          Below w0.heap.size w0 ((w2.setCell ⟨gr, j * 2, none⟩ (.int .u32 x.f0)).setCell ⟨gr, j * 2 + 1, none⟩ (.string x.f1)) ∧ Kept w ((w2.setCell ⟨gr, j * 2, none⟩ (.int .u32 x.f0)).setCell ⟨gr, j * 2 + 1, none⟩ (.string x.f1)) (fun k => k = g ∨ some k = (Value.slice (some ⟨gr, 0, none⟩) bl.length cap).ownBlock) := by
        refine ⟨.slice (some ⟨gr, 0, none⟩) bl.length cap, B3, ?_, (K2.out.setCell (p := ⟨gr, j * 2, none⟩) hbg _).setCell (p := ⟨gr, j * 2 + 1, none⟩) hbg _, (V2.out.setCell (p := ⟨gr, j * 2, none⟩) (.inl (.inr rfl)) _).setCell (p := ⟨gr, j * 2 + 1, none⟩) (.inl (.inr rfl)) _⟩
        have hQ := R_of_row (d := k60) (e := 60) (base := w0.heap.size) (ok := fun k => some k = (Value.slice (some ⟨gr, 0, none⟩) bl.length cap).ownBlock ∨ w.heap.size ≤ k) (xs := bl.set j x) (cap := cap) (inner := (inner.set (j * 2) (.int .u32 x.f0)).set (j * 2 + 1) (.string x.f1)) hbg (.inl rfl) (e1 (.int .u32 x.f0) (.string x.f1)) (by rw [List.length_set]; exact hnc) (by unfold maxLen; exact hcm) (by rw [k60_sz]; simpa using hsz)
          (by rw [k60_sz]; simpa using hil) (by rw [k60_sz, List.length_set, ← hti]; simp [List.take_set])
          (fun ok' => reps_set (hrep _ _) hj)
        rw [List.length_set] at hQ
        exact hQ
      clear e1 far B3 X3
      clear r0 r1 hrep hsz hil hti hnc hcm hj HS HB
      go_region_held3 (fun w' => w'.cell? ⟨g, 1, none⟩ = some (.slice (some ⟨gr, 0, none⟩) bl.length cap) ∧ w'.cell? ⟨gx, 0, none⟩ = some (.int .u32 x.f0) ∧ w'.cell? ⟨gx, 1, none⟩ = some (.string x.f1)) (first | exact HK | go_keep) (fail)
      all_goals (go_end0; obtain ⟨v, h1, h2, h3, h4⟩ := HE; exact ⟨rfl, v, blk_drew h1, Kd.R_drew h2, below_drew1 h3, h4.drew⟩)
  | false =>
    rw [if_neg (by decide)] at h
    by_cases hx : x.f1.toList = []
    · rw [if_pos hx] at h
      obtain rfl := Option.some.inj h
      have hxb : (x.f1.toList == ([] : List UInt8)) = true := beq_iff_eq.mpr hx
      have hxb2 : (x.f1.toList != ([] : List UInt8)) = false := bne_eq_false_iff_eq.mpr hx
      clear h hx hlen
      go_enter Tryd.func18, Tryd.ntmps18
      go_wp2_with (first
        | ((with_reducible refine gate_dst (N := 3) rfl ?_); refine bx_ (N := 3) (cs := #[.int .u32 x.f0, .string x.f1]) (t := 60) ?_; intro gx hgx w1 hx hbx; have B1 := Aside0.mk (blk_below HD.out hbx); have R1 := Aside0.mk (Kd.R_below HR.out hbx); have X1 := Aside0.mk hx; have K1 := Aside0.mk (below_step HB.out hbx); have N1 := Aside0.mk (show w.heap.size ≤ gx by omega); have V1 := Aside0.mk (Kept.of_below hbx (fun k => k = g ∨ some k = vB.ownBlock)); have D1 := Aside0.mk hbx; have z0 : w1.cell? ⟨gx, 0, none⟩ = some (.int .u32 x.f0) := (blk_cell hx 0).trans rfl; clear hx hbx hgx)
        | (go_at_call 30; refine (place_calls k g s vB vW d f n bl _ _ x.f0 _ _ _ B1.out R1.out HS.out).mono ?_; rintro e w2 ⟨rfl, h2⟩; have B2 := Aside0.mk (blk_below B1.out h2); have R2 := Aside0.mk (Kd.R_below R1.out h2); have X2 := Aside0.mk (blk_below X1.out h2); have K2 := Aside0.mk (below_step K1.out h2); have V2 := Aside0.mk (V1.out.below h2); have D2 := Aside0.mk (below_step D1.out h2); have q1 : w2.cell? ⟨g, 1, none⟩ = some vB := (blk_cell B2.out 1).trans rfl; have f1 : w2.frozen? ⟨g, 1, none⟩ = false := blk_frozen B2.out 1; have y0 : w2.cell? ⟨gx, 0, none⟩ = some (.int .u32 x.f0) := (blk_cell X2.out 0).trans rfl; have y1 : w2.cell? ⟨gx, 1, none⟩ = some (.string x.f1) := (blk_cell X2.out 1).trans rfl; clear B1 R1 X1 K1 V1 D1 z0 h2))
      go_end0
      exact ⟨rfl, _, B2.out, Kd.R_mono (Kd.R_tight k60_E R2.out) (fun _ hk => .inl hk), K2.out, V2.out⟩
    · rw [if_neg hx] at h
      have hxb : (x.f1.toList == ([] : List UInt8)) = false := beq_eq_false_iff_ne.mpr hx
      have hxb2 : (x.f1.toList != ([] : List UInt8)) = true := bne_iff_ne.mpr hx
      have H := Aside0.mk h
      clear h hx hlen
      have hb0 : ∀ k, some k = vB.ownBlock → k < w.heap.size := fun k hk => ((Kd.R_bound HR.out).1 k hk.symm).2.2.1
      go_enter Tryd.func18, Tryd.ntmps18
      go_wp2_with (first
        | ((with_reducible refine gate_dst (N := 3) rfl ?_); refine bx_ (N := 3) (cs := #[.int .u32 x.f0, .string x.f1]) (t := 60) ?_; intro gx hgx w1 hx hbx; have B1 := Aside0.mk (blk_below HD.out hbx); have R1 := Aside0.mk (Kd.R_below HR.out hbx); have X1 := Aside0.mk hx; have K1 := Aside0.mk (below_step HB.out hbx); have N1 := Aside0.mk (show w.heap.size ≤ gx by omega); have V1 := Aside0.mk (Kept.of_below hbx (fun k => k = g ∨ some k = vB.ownBlock)); have D1 := Aside0.mk hbx; have z0 : w1.cell? ⟨gx, 0, none⟩ = some (.int .u32 x.f0) := (blk_cell hx 0).trans rfl; clear hx hbx hgx)
        | (go_at_call 30; refine (place_calls k g s vB vW d f n bl _ _ x.f0 _ _ _ B1.out R1.out HS.out).mono ?_; rintro e w2 ⟨rfl, h2⟩; have B2 := Aside0.mk (blk_below B1.out h2); have R2 := Aside0.mk (Kd.R_below R1.out h2); have X2 := Aside0.mk (blk_below X1.out h2); have K2 := Aside0.mk (below_step K1.out h2); have V2 := Aside0.mk (V1.out.below h2); have D2 := Aside0.mk (below_step D1.out h2); have q1 : w2.cell? ⟨g, 1, none⟩ = some vB := (blk_cell B2.out 1).trans rfl; have f1 : w2.frozen? ⟨g, 1, none⟩ = false := blk_frozen B2.out 1; have y0 : w2.cell? ⟨gx, 0, none⟩ = some (.int .u32 x.f0) := (blk_cell X2.out 0).trans rfl; have y1 : w2.cell? ⟨gx, 1, none⟩ = some (.string x.f1) := (blk_cell X2.out 1).trans rfl; clear B1 R1 X1 K1 V1 D1 z0 h2))
      have hxne : some gx ≠ vB.ownBlock := fun e => by have := hb0 gx e; have := N1.out; omega
      have hgx1 : ¬ gx = g := fun e => by have := blk_lt HD.out; have := N1.out; omega
      have hgx2 : ¬ g = gx := fun e => hgx1 e.symm
      have hBd := Aside0.mk (blk_drew B2.out)
      have hXd := Aside0.mk (blk_drew X2.out)
      have hKd := Aside0.mk (below_drew1 K2.out)
      have hRd := Aside0.mk (Kd.R_drew R2.out)
      have hVd := Aside0.mk V2.out.drew
      have hs2 : w.heap.size ≤ w2.drew.heap.size := V2.out.1
      clear B2 X2 K2 R2 V2 f1 D2
      refine start_ (n := 14) (S := fun w' => w'.cell? ⟨g, 1, none⟩ = some vB ∧ w'.cell? ⟨gx, 0, none⟩ = some (.int .u32 x.f0) ∧ w'.cell? ⟨gx, 1, none⟩ = some (.string x.f1)) (ds := [13]) #[false, false, false, false, false, false, false, false, false, false, false, false, false, false] (by kernel_rfl) rfl rfl ⟨q1, y0, y1⟩ (fun hHeld => ?_)
      clear q1 y0 y1
      generalize w2.drew = wd at hBd hXd hKd hRd hVd hs2 hHeld ⊢
      refine pu_ 0 47 ?_
      refine pu_ 1 48 ?_
      refine pu_ 2 49 ?_
      refine pu_ 3 50 ?_
      refine pu_ 4 51 ?_
      refine tk3_ 5 52 ?_
      refine pu_ 6 53 ?_
      refine tk3_ 7 54 ?_
      refine on_ 8 55 (fun K hK => ?_)
      refine value_ (w1 := ?_) (v := ?_) (by rfl) rfl ?_ ?_
      rotate_left 2
      · go_simp
        constructor
        · rfl
        · rfl
      refine hK.out _ _ ⟨(blk_cell (blk_alloc hBd.out _) 1).trans rfl, (blk_cell (blk_alloc hXd.out _) 0).trans rfl, (blk_cell (blk_alloc hXd.out _) 1).trans rfl⟩ (fun hHeld => ?_)
      clear hK K
      refine nm_ 55 ?_
      refine on_ 9 56 (fun K hK => ?_)
      have IA : ∀ W_, Kept (wd.alloc (.cells #[.int .u32 x.f0, .string x.f1] 60 (0, 0))) W_ (fun k => some k = vB.ownBlock) → Own W_ w0.heap.size (fun k => k = wd.heap.size) (.slice (some ⟨wd.heap.size, 0, none⟩) 1 1) [x] := fun W_ hk =>
        R_of_row (d := k60) (e := 60) (xs := [x]) (cur := #[.int .u32 x.f0, .string x.f1]) (inner := [.int .u32 x.f0, .string x.f1]) hKd.out.size rfl (blk_kept (blk_new wd _) hk (fun e => by have := hb0 _ e; omega)) (Nat.le_refl 1) (by unfold maxLen; decide) (by rw [k60_sz]; rfl) (by rw [k60_sz]; rfl) (by rw [k60_sz]; rfl)
          (fun ok' => by
            have := Reps.snoc (Reps.none (k60.M W_ w0.heap.size ok') k60.sz) (k60_mkM W_ w0.heap.size ok' x) (by rw [k60_sz]; rfl)
            exact this)
      have IC : ∀ W_, Kept (wd.alloc (.cells #[.int .u32 x.f0, .string x.f1] 60 (0, 0))) W_ (fun k => some k = vB.ownBlock) → Kd.C k60 W_ (some ⟨wd.heap.size, 0, none⟩) 1 [x] := fun W_ hk => by
        obtain ⟨A, c, e, _, hC⟩ := Kd.R_reads (IA W_ hk)
        cases e
        exact hC
      have VA := hVd.out.alloc (.cells #[.int .u32 x.f0, .string x.f1] 60 (0, 0))
      refine goes_ Tryd.func32 (by kernel_rfl) rfl #[vB, .int .i64 i, .slice (some ⟨wd.heap.size, 0, none⟩) 1 1] (by rfl) rfl rfl (by (try simp only [List.map_toArray, List.map_cons, List.map_nil]); first | done | rfl) ?_
      refine (slices_Insert_api_Block_api_Block.calls (fun k => some k = vB.ownBlock) vB bl i (some ⟨wd.heap.size, 0, none⟩) 1 [x] r w0 _ (below_alloc hKd.out _) (Kd.R_alloc (Kd.R_tight k60_E hRd.out) _) (fun W_ hk => IC W_ hk) (Nat.le_refl 1) ⟨_, _, IA _ (Kept.refl _ _)⟩ H.out).mono ?_
      rintro e w3 ⟨v, rfl, hR3, hB3, hK3⟩
      obtain ⟨A3, c3, rfl⟩ := Kd.R_slice hR3
      have V3 := Aside0.mk (VA.then_ hK3 (fun k hk => .inl (.inr hk)))
      have B3 := Aside0.mk (blk_kept (blk_alloc hBd.out _) hK3 hne.out)
      have X3 := Aside0.mk (blk_kept (blk_alloc hXd.out _) hK3 hxne)
      have L3 := Aside0.mk (show w.heap.size ≤ _ from VA.1)
      have R3 := Aside0.mk hR3
      have C3 := Aside0.mk hB3
      clear hR3 hB3 hK3 IA IC VA
      refine ⟨_, rfl, ?_⟩
      refine hK.out _ _ ⟨(blk_cell B3.out 1).trans rfl, (blk_cell X3.out 0).trans rfl, (blk_cell X3.out 1).trans rfl⟩ (fun hHeld => ?_)
      clear hK K
      refine nm_ 56 ?_
      refine pu_ 10 57 ?_
      refine pu_ 11 58 ?_
      refine pu_ 12 59 ?_
      have p1 : w3.cell? ⟨g, 1, none⟩ = some vB := (blk_cell B3.out 1).trans rfl
      have g1 : w3.frozen? ⟨g, 1, none⟩ = false := blk_frozen B3.out 1
      refine last_ (i := 13) (N := none) #[true, true, true, true, true, true, true, true, true, true, true, true, true, true] rfl rfl (by kernel_rfl) (by decide) (fun K hK => ?_)
      refine skip_ (w1 := ?_) (by rfl) rfl ?_ ?_
      rotate_left
      · go_simp
        rfl
      refine hK.out _ _ ?_
      clear hK K
      refine done_ (by kernel_rfl) ?_
      try go_wp2
      go_end0
      exact ⟨rfl, put_end B3.out R3.out C3.out V3.out HG.out (fun k hk => hk.imp_right (fun q => Nat.le_trans L3.out q))⟩
end Go.Proofs.YthbljhmjppjcjaaDoor.Z
end

section
-- Printed by a program of this session (mp.py) out of the translation.
namespace Go.Proofs.YthbljhmjppjcjaaDoor.Z
open Go.RowKit Go.Proofs.YthbljhmjppjcjaaDoorW.PrintWords Go.Proofs.YthbljhmjppjcjaaDoorW.PrintLast Go.Proofs.YthbljhmjppjcjaaDoorW.PrintMore
attribute [local go_sem] max2_int min2_int max_two min_two max_three min_three max_four min_four   -- for this text's walks alone
set_option linter.unusedVariables false
set_option linter.unusedSimpArgs false

/-! ### dev_Own: function 28 -/
def dev_Own.f (a0_0 : Int) (l0_1 : List (S60)) (l0_2 : List (S60)) (a0_3 : Bool) (a0_4 : Int) : Option (Int × (List (S60)) × (List (S60)) × Bool × Int) := (slices_Clone_api_Block_api_Block.f l0_1).bind fun t123 => ((slices_Clone_api_Block_api_Block.f l0_2).bind fun t126 => (some (a0_0, t123, t126, a0_3, a0_4)))
def dev_Own.T1 : Bool × List (List Nat × List Nat) := (true, [([], []), ([0], [0]), ([1], [1]), ([], []), ([3], [3]), ([4, 2], [4]), ([0, 1, 2, 3, 4], []), ([6, 2, 5, 0, 1, 2, 3, 4], [2, 6]), ([0, 1, 2, 3, 4, 5, 6, 7], []), ([8, 5, 7, 0, 1, 2, 3, 4, 5, 6, 7], [5, 8])])
def dev_Own.B1 : List Nat := [0, 1, 3, 0, 8, 31, 31, 127, 255, 511]
theorem dev_Own.tab1 : rtab .any (opsOf Tryd.f28 1) = dev_Own.T1 := by kernel_rfl
theorem dev_Own.bits1 : waitsOk dev_Own.T1.2 dev_Own.B1 = true := by kernel_rfl
set_option maxHeartbeats 8000000 in
set_option maxRecDepth 100000 in
theorem dev_Own.calls (a0_0 : Int) (A0_1 : Option Addr) (c0_1 : Nat) (l0_1 : List (S60)) (A0_2 : Option Addr) (c0_2 : Nat) (l0_2 : List (S60)) (a0_3 : Bool) (a0_4 : Int) (r1 : Int) (r2 : List (S60)) (r3 : List (S60)) (r4 : Bool) (r5 : Int) (w : World) (hr0_1 : Kd.C k60 w A0_1 l0_1.length l0_1) (hc0_1 : l0_1.length ≤ c0_1) (hr0_2 : Kd.C k60 w A0_2 l0_2.length l0_2) (hc0_2 : l0_2.length ≤ c0_2) (h : dev_Own.f a0_0 l0_1 l0_2 a0_3 a0_4 = some (r1, r2, r3, r4, r5)) :
    Calls Tryd.prog 28 #[.agg #[.int .u32 a0_0, .slice A0_1 l0_1.length c0_1, .slice A0_2 l0_2.length c0_2, .bool a0_3, .int .i64 a0_4]] w fun e w' => ∃ v1_ v2_ : Value, e = .returned (.agg #[.int .u32 r1, v1_, v2_, .bool r4, .int .i64 r5]) ∧ Kd.R k60 60 w' w.heap.size (fun k_ => some k_ ≠ (v2_ : Value).ownBlock) v1_ r2 ∧ Kd.R k60 60 w' w.heap.size (fun k_ => some k_ ≠ (v1_ : Value).ownBlock) v2_ r3 ∧ Below w.heap.size w w' := by
  have hu30 := Tryd.underlying30
  have HR0_1 := Aside0.mk hr0_1
  have HC0_1 := Aside0.mk hc0_1
  clear hr0_1 hc0_1
  have HR0_2 := Aside0.mk hr0_2
  have HC0_2 := Aside0.mk hc0_2
  clear hr0_2 hc0_2
  have HB := Aside0.mk (Below.refl w.heap.size w)
  have H : ((slices_Clone_api_Block_api_Block.f l0_1).bind fun t123 => ((slices_Clone_api_Block_api_Block.f l0_2).bind fun t126 => (some (a0_0, t123, t126, a0_3, a0_4)))) = some (r1, r2, r3, r4, r5) := h
  clear h
  replace H := Option.bind_eq_some_iff.mp H
  obtain ⟨t123, A20, H⟩ := H
  replace H : ((slices_Clone_api_Block_api_Block.f l0_2).bind fun t126 => (some (a0_0, t123, t126, a0_3, a0_4))) = some (r1, r2, r3, r4, r5) := H
  have A2 := Aside0.mk A20
  clear A20
  replace H := Option.bind_eq_some_iff.mp H
  obtain ⟨t126, A30, H⟩ := H
  replace H : (some (a0_0, t123, t126, a0_3, a0_4)) = some (r1, r2, r3, r4, r5) := H
  have A3 := Aside0.mk A30
  clear A30
  simp only [Option.some.injEq, Prod.mk.injEq] at H
  obtain ⟨rfl, rfl, rfl, rfl, rfl⟩ := H
  go_enter Tryd.func28, Tryd.ntmps28
  try go_wp2_with (first | ((with_reducible refine gate_dst (N := 1) rfl ?_); refine bx_ (N := 1) (cs := #[.int .u32 a0_0, .slice A0_1 l0_1.length c0_1, .slice A0_2 l0_2.length c0_2, .bool a0_3, .int .i64 a0_4]) (t := 30) ?_; intro gb121 hg w4 hbox hb; have BK121 := Aside0.mk (hbox); have GW121 := ge_ hg; have GE121 := ge_ hg; replace HB := hb_ hb; clear hb hbox hg) | ((with_reducible refine gate_dst (N := 2) rfl ?_); refine bx_ (N := 2) (cs := #[.int .u32 0, .slice none 0 0, .slice none 0 0, .bool false, .int .i64 0]) (t := 30) ?_; intro gb122 hg w5 hbox hb; have BK122 := Aside0.mk (hbox); have GW122 := ge_ hg; have GE122 := ge_ hg; have NB121_122 := nl_ BK121 hg; have NB122_121 := ng_ BK121 hg; replace BK121 := kb_ BK121 hb; replace HB := hb_ hb; clear hb hbox hg))
  replace BK121 := Aside0.mk (blk_drew BK121.out)
  replace BK122 := Aside0.mk (blk_drew BK122.out)
  replace HB := Aside0.mk (below_drew1 HB.out)
  refine start_ (n := 10) (S := fun w' => w'.cell? ⟨gb121, 0, none⟩ = some (.int .u32 a0_0) ∧ w'.cell? ⟨gb121, 1, none⟩ = some (.slice A0_1 l0_1.length c0_1) ∧ w'.cell? ⟨gb121, 2, none⟩ = some (.slice A0_2 l0_2.length c0_2) ∧ w'.cell? ⟨gb121, 3, none⟩ = some (.bool a0_3) ∧ w'.cell? ⟨gb121, 4, none⟩ = some (.int .i64 a0_4)) (ds := [7, 9]) #[false, false, false, false, false, false, false, false, false, false] (by kernel_rfl) rfl rfl hc_ (fun hHeld => ?_); refine with_tabW dev_Own.tab1 dev_Own.bits1 (fun HT_ HW_ => ?_)
  generalize w5.drew = w6 at BK121 BK122 HB hHeld ⊢
  refine pu_ 0 3 ?_
  refine pu_ 3 6 ?_
  refine tk5_ 1 4 ?_
  refine tk5_ 4 7 ?_
  refine on_ 2 5 (fun K hK => ?_)
  refine goes_ Tryd.func41 (by kernel_rfl) rfl #[.slice A0_1 l0_1.length c0_1] (by rfl) rfl rfl (by (try simp only [List.map_toArray, List.map_cons, List.map_nil]); first | done | rfl | (simp only [List.length_drop, List.length_take]; rfl)) ?_
  with_reducible refine (slices_Clone_api_Block_api_Block.calls _ _ l0_1 t123 _ ?side1 ?side2 A2.out).mono ?_
  (case side1 => exact cb_ HR0_1)
  (case side2 => exact HC0_1.out)
  rintro e w7 ⟨v124, rfl, ho0, hb⟩
  refine ⟨_, rfl, ?_⟩
  have HO125 := rl_ ho0
  replace BK121 := kb_ BK121 hb
  replace BK122 := kb_ BK122 hb
  replace HB := hb_ hb
  (try clear hb)
  (try clear hb2)
  (try clear hk)
  (try clear hi)
  (try clear ho0)
  refine hK.out _ _ hc_ (fun hHeld => ?_)
  clear hK K
  refine nm_ 5 ?_
  refine pu_ 6 9 ?_
  refine on_ 5 8 (fun K hK => ?_)
  refine goes_ Tryd.func41 (by kernel_rfl) rfl #[.slice A0_2 l0_2.length c0_2] (by rfl) rfl rfl (by (try simp only [List.map_toArray, List.map_cons, List.map_nil]); first | done | rfl | (simp only [List.length_drop, List.length_take]; rfl)) ?_
  with_reducible refine (slices_Clone_api_Block_api_Block.calls _ _ l0_2 t126 _ ?side1 ?side2 A3.out).mono ?_
  (case side1 => exact cb_ HR0_2)
  (case side2 => exact HC0_2.out)
  rintro e w8 ⟨v127, rfl, ho0, hb⟩
  refine ⟨_, rfl, ?_⟩
  have HO128 := Aside0.mk (Kd.R_lower (Kd.R_new' ho0 (Kd.R_lt (ra_ HO125))) (below_size bel_))
  replace HO125 := Aside0.mk (Kd.R_elder' (ra_ HO125) (Kd.R_base ho0) hb)
  replace BK121 := kb_ BK121 hb
  replace BK122 := kb_ BK122 hb
  replace HB := hb_ hb
  (try clear hb)
  (try clear hb2)
  (try clear hk)
  (try clear hi)
  (try clear ho0)
  obtain ⟨Ao9, co9, eo9⟩ := Kd.R_slice HO125.out
  (first | subst eo9 | (injection eo9 with f1_ f2_ f3_; have f4_ := f1_.symm; have f5_ := f3_.symm; clear f1_ f2_ f3_; subst f4_; subst f5_))
  obtain ⟨Ao11, co11, eo11⟩ := Kd.R_slice HO128.out
  (first | subst eo11 | (injection eo11 with f1_ f2_ f3_; have f4_ := f1_.symm; have f5_ := f3_.symm; clear f1_ f2_ f3_; subst f4_; subst f5_))
  refine hK.out _ _ hc_ (fun hHeld => ?_)
  clear hK K
  refine nm_ 8 ?_
  refine last_ (i := 7) (N := none) #[true, true, true, true, true, true, true, true, false, false] rfl rfl (one_of HT_.out (by kernel_rfl)) (by decide) (fun K hK => ?_)
  have hs10 : w8.cell? ⟨gb121, 1, none⟩ = some (.slice A0_1 l0_1.length c0_1) := (blk_cell BK121.out 1).trans rfl
  have hfs10 := blk_frozen BK121.out 1
  have hns10_1 := NB122_121.out
  have hms10_1 := NB121_122.out
  refine skip_ (w1 := ?_) (by rfl) rfl ?_ ?_
  rotate_left
  · go_simp
    rfl
  refine hK.out _ _ ?_
  clear hK K
  refine pu_ 8 10 ?_
  refine last_ (i := 9) (N := none) #[true, true, true, true, true, true, true, true, true, true] rfl rfl (one_of HT_.out (by kernel_rfl)) (by decide) (fun K hK => ?_)
  have hs12 : w8.cell? ⟨gb121, 2, none⟩ = some (.slice A0_2 l0_2.length c0_2) := (blk_cell BK121.out 2).trans rfl
  have hfs12 := blk_frozen BK121.out 2
  have hns12_1 := NB122_121.out
  have hms12_1 := NB121_122.out
  refine skip_ (w1 := ?_) (by rfl) rfl ?_ ?_
  rotate_left
  · go_simp
    rfl
  refine hK.out _ _ ?_
  clear hK K
  refine done_ (done_of HT_.out (by kernel_rfl)) ?_
  have hnb13 := NB121_122.out
  have hnc13 := NB122_121.out
  obtain ⟨hcz14_0, hcz14_1, hcz14_2, hcz14_3, hcz14_4⟩ := cl5_ BK121
  obtain ⟨hfz14_0, hfz14_1, hfz14_2, hfz14_3, hfz14_4⟩ := fz5_ BK121
  obtain ⟨hcz15_0, hcz15_1, hcz15_2, hcz15_3, hcz15_4⟩ := cl5_ BK122
  obtain ⟨hfz15_0, hfz15_1, hfz15_2, hfz15_3, hfz15_4⟩ := fz5_ BK122
  try go_wp2
  refine bodyPost_ret (results_cell_row rfl _ _ gb122 30 #[.int .u32 a0_0, .slice Ao9 t123.length co9, .slice Ao11 t126.length co11, .bool a0_3, .int .i64 a0_4] (0, 0) _ rfl (bs_) Tryd.underlying30 rfl (by kernel_rfl)) rfl ?_
  exact ⟨_, _, by first | rfl | (simp [errW_none, errW_some] <;> rfl) | (simp [*, errW_none, errW_some] <;> rfl), by (with_reducible repeat (first | apply Kd.R_alloc | apply Kd.R_drewN | apply Kd.R_drew)); exact Kd.R_mono (Kd.R_far (p := ⟨gb122, 4, none⟩) (Kd.R_far (p := ⟨gb122, 3, none⟩) (Kd.R_far (p := ⟨gb122, 2, none⟩) (Kd.R_far (p := ⟨gb122, 1, none⟩) (Kd.R_far (p := ⟨gb122, 0, none⟩) (Kd.R_far (p := ⟨gb121, 2, none⟩) (Kd.R_far (p := ⟨gb121, 1, none⟩) (Kd.R_types (Kd.R_types HO125.out BK121.out (by decide)) BK122.out (by decide)) (fun _ hk => hk.1.2) (.slice Ao9 t123.length co9)) (fun _ hk => hk.1.2) (.slice Ao11 t126.length co11)) (fun _ hk => hk.2) (.int .u32 a0_0)) (fun _ hk => hk.2) (.slice Ao9 t123.length co9)) (fun _ hk => hk.2) (.slice Ao11 t126.length co11)) (fun _ hk => hk.2) (.bool a0_3)) (fun _ hk => hk.2) (.int .i64 a0_4)) (fun _ hk => hk.1.1.2), by (with_reducible repeat (first | apply Kd.R_alloc | apply Kd.R_drewN | apply Kd.R_drew)); exact Kd.R_mono (Kd.R_far (p := ⟨gb122, 4, none⟩) (Kd.R_far (p := ⟨gb122, 3, none⟩) (Kd.R_far (p := ⟨gb122, 2, none⟩) (Kd.R_far (p := ⟨gb122, 1, none⟩) (Kd.R_far (p := ⟨gb122, 0, none⟩) (Kd.R_far (p := ⟨gb121, 2, none⟩) (Kd.R_far (p := ⟨gb121, 1, none⟩) (Kd.R_types (Kd.R_types HO128.out BK121.out (by decide)) BK122.out (by decide)) (fun _ hk => hk.1.2) (.slice Ao9 t123.length co9)) (fun _ hk => hk.1.2) (.slice Ao11 t126.length co11)) (fun _ hk => hk.2) (.int .u32 a0_0)) (fun _ hk => hk.2) (.slice Ao9 t123.length co9)) (fun _ hk => hk.2) (.slice Ao11 t126.length co11)) (fun _ hk => hk.2) (.bool a0_3)) (fun _ hk => hk.2) (.int .i64 a0_4)) (fun _ hk => hk.1.1.2), bel_⟩

end Go.Proofs.YthbljhmjppjcjaaDoor.Z
end

section
/- strings.TrimRight at the zero byte. -/
namespace Go.Proofs.YthbljhmjppjcjaaDoor.Z
open Go.RowKit Go.Proofs.YthbljhmjppjcjaaDoorW.PrintWords Go.Proofs.YthbljhmjppjcjaaDoorW.PrintLast
set_option linter.unusedVariables false
set_option linter.unusedSimpArgs false
/-- Bytes without the zero bytes at their end. -/
def trimL (l : List UInt8) : List UInt8 := (l.reverse.dropWhile (· == 0)).reverse
def trimB (a : ByteArray) : ByteArray := ⟨(trimL a.data.toList).toArray⟩
def strings_TrimRight.f (a0 a1 : ByteArray) : Option ByteArray := if a1 = ⟨#[0]⟩ ∧ a0.size ≤ 9223372036854775807 then some (trimB a0) else none
theorem trimL_snoc (l : List UInt8) (b : UInt8) : trimL (l ++ [b]) = if b = 0 then trimL l else l ++ [b] := by
  unfold trimL
  rw [List.reverse_append, List.reverse_singleton, List.singleton_append, List.dropWhile_cons]
  by_cases h : b = 0
  · subst h; simp
  · rw [if_neg h, if_neg (by simpa using h)]; simp
theorem trim_nil (a : ByteArray) (h : a.size = 0) : trimB a = a := by
  obtain ⟨⟨l⟩⟩ := a
  have : l = [] := List.eq_nil_of_length_eq_zero h
  subst this
  rfl
theorem last_cases (a : ByteArray) (k : Nat) (hk : a.size = k + 1) : (a[k] = 0 → trimB a = trimB (a.extract 0 k)) ∧ (¬ a[k] = 0 → trimB a = a) := by
  obtain ⟨⟨l⟩⟩ := a
  have hl : l.length = k + 1 := hk
  obtain rfl | ⟨l', b, rfl⟩ := List.eq_nil_or_concat l
  · cases hl
  · have hk' : l'.length = k := by simpa using hl
    subst hk'
    have e : (⟨⟨l'.concat b⟩⟩ : ByteArray)[l'.length] = b := by
      show (l'.concat b)[l'.length]'(by simp) = b
      simp
    rw [e]
    refine ⟨fun hb => ?_, fun hb => ?_⟩
    · unfold trimB
      rw [List.concat_eq_append, trimL_snoc, if_pos hb, Lib.extract_eq]
      simp
    · unfold trimB
      rw [List.concat_eq_append, trimL_snoc, if_neg hb]
set_option maxHeartbeats 1600000 in
theorem trimByte (a : ByteArray) (ha : a.size ≤ 9223372036854775807) (w : World) :
    Calls Tryd.prog 42 #[.string a, .int .u8 0] w fun e w' => e = .returned (.string (trimB a)) ∧ w' = w := by
  go_enter Tryd.func42, Tryd.ntmps42
  go_wp2
  go_loop [0] (fun s => ∃ b : ByteArray, s = .string b ∧ Aside0 (b.size ≤ 9223372036854775807) ∧ Aside0 (trimB b = trimB a)) (fun s => match s with | .string b => b.size | _ => 0)
  case atStart => exact ⟨a, rfl, ⟨ha⟩, ⟨rfl⟩⟩
  case round =>
    obtain ⟨b, rfl, HS, HT⟩ := hrel
    by_cases h0 : b.size = 0
    · have e0 : (b.size : Int) = 0 := by omega
      have hf : decide ((0 : Int) < (b.size : Int)) = false := by simp [h0]
      have hf2 : decide (0 < b.size) = false := by simp [h0]
      have hE : trimB b = b := trim_nil b h0
      have HE := Aside0.mk hE
      clear hE e0 h0
      go_wp2
      go_ret
      exact ⟨by rw [← HT.out, HE.out]; rfl, rfl⟩
    · obtain ⟨k, hk⟩ : ∃ k, b.size = k + 1 := ⟨b.size - 1, by omega⟩
      obtain ⟨h1, h2⟩ := last_cases b k hk
      have hf : decide ((0 : Int) < (b.size : Int)) = true := by simp; omega
      have hf2 : decide (0 < b.size) = true := by simp; omega
      have HK := Aside0.mk hk
      have H1 := Aside0.mk h1
      have H2 := Aside0.mk h2
      clear h1 h2
      have hsz := HS.out
      go_wp2
      · have hz : b[k] = 0 := by
          have hq : (((b[k].toNat : Nat) : Int) == 0) = true := by assumption
          have hq := beq_iff_eq.1 hq
          have : b[k].toNat = 0 := by omega
          exact UInt8.toNat_inj.1 this
        refine ⟨⟨b.extract 0 k, rfl, ⟨?_⟩, ⟨?_⟩⟩, ?_⟩
        · rw [ByteArray.size_extract]; omega
        · rw [← H1.out hz, HT.out]
        · show (b.extract 0 k).size < b.size
          rw [ByteArray.size_extract]; omega
      · have hz : ¬ b[k] = 0 := by
          intro hc
          have hq : (((b[k].toNat : Nat) : Int) == 0) = false := by assumption
          rw [hc] at hq
          exact absurd hq (by decide)
        go_ret
        exact ⟨by rw [← HT.out, H2.out hz]; rfl, rfl⟩
set_option maxRecDepth 100000 in
theorem strings_TrimRight.calls (a0 a1 : ByteArray) (r : ByteArray) (w : World) (h : strings_TrimRight.f a0 a1 = some r) :
    Calls Tryd.prog 29 #[.string a0, .string a1] w fun e w' => e = .returned (.string r) ∧ Drawn0 w w' := by
  unfold strings_TrimRight.f at h
  split at h
  case isFalse => cases h
  case isTrue hs =>
    obtain ⟨rfl, hs⟩ := hs
    obtain rfl := Option.some.inj h
    by_cases h0 : a0.toList = []
    · have e0 : a0.toList.isEmpty = true := by rw [h0]; rfl
      have hE : trimB a0 = a0 := trim_nil a0 (by
        rw [ByteArray.toList_eq] at h0
        have := congrArg List.length h0
        rw [Array.length_toList] at this
        exact this)
      have HE := Aside0.mk hE
      clear hE
      go_enter Tryd.func29, Tryd.ntmps29
      go_wp2
      go_ret
      exact ⟨by rw [HE.out]; rfl, Drawn0.refl _⟩
    · have e0 : a0.toList.isEmpty = false := by simpa using h0
      have HS := Aside0.mk hs
      clear hs
      go_enter Tryd.func29, Tryd.ntmps29
      go_wp2_with (go_at_call 42; refine (trimByte a0 HS.out _).mono ?_; rintro e w' ⟨rfl, rfl⟩)
      go_ret
      exact ⟨rfl, Drawn0.refl _⟩
end Go.Proofs.YthbljhmjppjcjaaDoor.Z
end

section
-- Printed by a program of this session (mp.py) out of the translation.
namespace Go.Proofs.YthbljhmjppjcjaaDoor.Z
open Go.RowKit Go.Proofs.YthbljhmjppjcjaaDoorW.PrintWords Go.Proofs.YthbljhmjppjcjaaDoorW.PrintLast Go.Proofs.YthbljhmjppjcjaaDoorW.PrintMore
attribute [local go_sem] max2_int min2_int max_two min_two max_three min_three max_four min_four   -- for this text's walks alone
set_option linter.unusedVariables false
set_option linter.unusedSimpArgs false

/-! ### dev_cut: function 16 -/
def dev_cut.f (a0 : ByteArray) : Option (ByteArray) := (strings_TrimRight.f a0 (⟨#[0]⟩ : ByteArray)).bind fun t111 => (some t111)
set_option maxHeartbeats 8000000 in
set_option maxRecDepth 100000 in
theorem dev_cut.calls (a0 : ByteArray) (r : ByteArray) (w : World) (h : dev_cut.f a0 = some r) :
    Calls Tryd.prog 16 #[.string a0] w fun e w' => e = .returned (.string r) ∧ Drawn0 w w' := by
  have H : ((strings_TrimRight.f a0 (⟨#[0]⟩ : ByteArray)).bind fun t111 => (some t111)) = some r := h
  clear h
  replace H := Option.bind_eq_some_iff.mp H
  obtain ⟨t111, A20, H⟩ := H
  replace H : (some t111) = some r := H
  have A2 := Aside0.mk A20
  clear A20
  obtain rfl := Option.some.inj H
  go_enter Tryd.func16, Tryd.ntmps16
  go_wp2_with (first | ((with_reducible refine gate_callee (f := 29) rfl ?_); refine gl_ (some 4) Tryd.func29 #[.string a0, .string (⟨#[0]⟩ : ByteArray)] ?_; (with_reducible refine (strings_TrimRight.calls a0 (⟨#[0]⟩ : ByteArray) t111 _ A2.out).mono ?_); rintro e w' ⟨rfl, ⟨nd, rfl⟩⟩; refine ⟨_, rfl, ?_⟩))
  go_ret
  exact ⟨by first | rfl | (simp; done) | (simp [*]; done), by repeat (first | exact Drawn0.refl _ | apply Drawn0.step)⟩

end Go.Proofs.YthbljhmjppjcjaaDoor.Z
end

section
-- Printed by a program of this session (mp.py) out of the translation.
namespace Go.Proofs.YthbljhmjppjcjaaDoor.Z
open Go.RowKit Go.Proofs.YthbljhmjppjcjaaDoorW.PrintWords Go.Proofs.YthbljhmjppjcjaaDoorW.PrintLast Go.Proofs.YthbljhmjppjcjaaDoorW.PrintMore
attribute [local go_sem] max2_int min2_int max_two min_two max_three min_three max_four min_four   -- for this text's walks alone
set_option linter.unusedVariables false
set_option linter.unusedSimpArgs false

/-! ### dev_right: function 25 -/
def dev_right.f (a0_0 : Int) (a0_1 : ByteArray) (a1 : Int) : Option (Bool) := if a0_0 < a1 then (if (a0_1.size : Int) ≤ 512 then ((dev_cut.f a0_1).bind fun t113 => (some (t113.toList == a0_1.toList))) else (some false)) else (some false)
set_option maxHeartbeats 8000000 in
set_option maxRecDepth 100000 in
theorem dev_right.calls (a0_0 : Int) (a0_1 : ByteArray) (a1 : Int) (r : Bool) (w : World) (h : dev_right.f a0_0 a0_1 a1 = some r) :
    Calls Tryd.prog 25 #[.agg #[.int .u32 a0_0, .string a0_1], .int .u32 a1] w fun e w' => e = .returned (.bool r) ∧ Below w.heap.size w w' := by
  have hu60 := Tryd.underlying60
  have HB := Aside0.mk (Below.refl w.heap.size w)
  have H : (if a0_0 < a1 then (if (a0_1.size : Int) ≤ 512 then ((dev_cut.f a0_1).bind fun t113 => (some (t113.toList == a0_1.toList))) else (some false)) else (some false)) = some r := h
  clear h
  by_cases c3 : a0_0 < a1
  · rw [if_pos c3] at H
    have c3b0 : decide (a0_0 < a1) = true := decide_eq_true c3
    clear c3
    by_cases c4 : (a0_1.size : Int) ≤ 512
    · rw [if_pos c4] at H
      have c4b0 : decide ((a0_1.size : Int) ≤ 512) = true := decide_eq_true c4
      have c4b1 : decide (a0_1.size ≤ 512) = true := decide_eq_true (by omega)
      clear c4
      replace H := Option.bind_eq_some_iff.mp H
      obtain ⟨t113, A50, H⟩ := H
      replace H : (some (t113.toList == a0_1.toList)) = some r := H
      have A5 := Aside0.mk A50
      clear A50
      obtain rfl := Option.some.inj H
      go_enter Tryd.func25, Tryd.ntmps25
      go_wp2_with (first | ((with_reducible refine gate_dst (N := 2) rfl ?_); (try (refine gate_guard (by rfl) ?_; dsimp only)); refine bx_ (N := 2) (cs := #[.int .u32 a0_0, .string a0_1]) (t := 60) ?_; intro gb112 hg w6 hbox hb; have BK112 := Aside0.mk (hbox); have GW112 := ge_ hg; have GE112 := ge_ hg; replace HB := hb_ hb; clear hb hbox hg; obtain ⟨hcz7_0, hcz7_1⟩ := cl2_ BK112; obtain ⟨hfz7_0, hfz7_1⟩ := fz2_ BK112) | (go_at_call 16; (with_reducible refine (dev_cut.calls a0_1 t113 _ A5.out).mono ?_); rintro e w' ⟨rfl, ⟨nd, rfl⟩⟩; (try first | exact ⟨rfl, _, World.drewN_drewN _ _ _⟩ | exact ⟨rfl, _, Eq.trans (World.drewN_drewN _ _ _) (congrArg (World.drewN _) (Nat.add_assoc _ _ _))⟩)))
      repeat (go_quiet (first | ((with_reducible refine gate_dst (N := 2) rfl ?_); (try (refine gate_guard (by rfl) ?_; dsimp only)); refine bx_ (N := 2) (cs := #[.int .u32 a0_0, .string a0_1]) (t := 60) ?_; intro gb112 hg w6 hbox hb; have n0_ := Aside0.mk (below_step bel_ hb); have n1_ := Aside0.mk (hbox); have n2_ := Aside0.mk ((by rw [hg]; exact (below_size bel_) : w.heap.size ≤ gb112)); have n3_ := Aside0.mk ((by rw [hg]; exact (below_size bel_) : w.heap.size ≤ gb112)); clear HB; have HB := n0_; have BK112 := n1_; have GW112 := n2_; have GE112 := n3_; clear n0_ n1_ n2_ n3_; clear hb hbox hg; have hcz7_0 : w6.cell? ⟨gb112, 0, none⟩ = some (.int .u32 a0_0) := (blk_cell BK112.out 0).trans rfl; have hcz7_1 : w6.cell? ⟨gb112, 1, none⟩ = some (.string a0_1) := (blk_cell BK112.out 1).trans rfl; have hfz7_0 := blk_frozen BK112.out 0; have hfz7_1 := blk_frozen BK112.out 1) | (go_at_call 16; (with_reducible refine (dev_cut.calls a0_1 t113 _ A5.out).mono ?_); rintro e w' ⟨rfl, ⟨nd, rfl⟩⟩; (try first | exact ⟨rfl, _, World.drewN_drewN _ _ _⟩ | exact ⟨rfl, _, Eq.trans (World.drewN_drewN _ _ _) (congrArg (World.drewN _) (Nat.add_assoc _ _ _))⟩))); try go_wp2_with (first | ((with_reducible refine gate_dst (N := 2) rfl ?_); (try (refine gate_guard (by rfl) ?_; dsimp only)); refine bx_ (N := 2) (cs := #[.int .u32 a0_0, .string a0_1]) (t := 60) ?_; intro gb112 hg w6 hbox hb; have BK112 := Aside0.mk (hbox); have GW112 := ge_ hg; have GE112 := ge_ hg; replace HB := hb_ hb; clear hb hbox hg; obtain ⟨hcz7_0, hcz7_1⟩ := cl2_ BK112; obtain ⟨hfz7_0, hfz7_1⟩ := fz2_ BK112) | (go_at_call 16; (with_reducible refine (dev_cut.calls a0_1 t113 _ A5.out).mono ?_); rintro e w' ⟨rfl, ⟨nd, rfl⟩⟩; (try first | exact ⟨rfl, _, World.drewN_drewN _ _ _⟩ | exact ⟨rfl, _, Eq.trans (World.drewN_drewN _ _ _) (congrArg (World.drewN _) (Nat.add_assoc _ _ _))⟩))))
      go_ret
      exact ⟨by first | rfl | (simp [errW_none, errW_some] <;> rfl) | (simp [*, errW_none, errW_some] <;> rfl), bel_⟩
    · rw [if_neg c4] at H
      have c4b0 : decide ((a0_1.size : Int) ≤ 512) = false := decide_eq_false c4
      have c4b1 : decide (a0_1.size ≤ 512) = false := decide_eq_false (by omega)
      clear c4
      obtain rfl := Option.some.inj H
      go_enter Tryd.func25, Tryd.ntmps25
      go_wp2_with (first | ((with_reducible refine gate_dst (N := 2) rfl ?_); (try (refine gate_guard (by rfl) ?_; dsimp only)); refine bx_ (N := 2) (cs := #[.int .u32 a0_0, .string a0_1]) (t := 60) ?_; intro gb112 hg w8 hbox hb; have BK112 := Aside0.mk (hbox); have GW112 := ge_ hg; have GE112 := ge_ hg; replace HB := hb_ hb; clear hb hbox hg; obtain ⟨hcz9_0, hcz9_1⟩ := cl2_ BK112; obtain ⟨hfz9_0, hfz9_1⟩ := fz2_ BK112))
      repeat (go_quiet (first | ((with_reducible refine gate_dst (N := 2) rfl ?_); (try (refine gate_guard (by rfl) ?_; dsimp only)); refine bx_ (N := 2) (cs := #[.int .u32 a0_0, .string a0_1]) (t := 60) ?_; intro gb112 hg w8 hbox hb; have n0_ := Aside0.mk (below_step bel_ hb); have n1_ := Aside0.mk (hbox); have n2_ := Aside0.mk ((by rw [hg]; exact (below_size bel_) : w.heap.size ≤ gb112)); have n3_ := Aside0.mk ((by rw [hg]; exact (below_size bel_) : w.heap.size ≤ gb112)); clear HB; have HB := n0_; have BK112 := n1_; have GW112 := n2_; have GE112 := n3_; clear n0_ n1_ n2_ n3_; clear hb hbox hg; have hcz9_0 : w8.cell? ⟨gb112, 0, none⟩ = some (.int .u32 a0_0) := (blk_cell BK112.out 0).trans rfl; have hcz9_1 : w8.cell? ⟨gb112, 1, none⟩ = some (.string a0_1) := (blk_cell BK112.out 1).trans rfl; have hfz9_0 := blk_frozen BK112.out 0; have hfz9_1 := blk_frozen BK112.out 1)); try go_wp2_with (first | ((with_reducible refine gate_dst (N := 2) rfl ?_); (try (refine gate_guard (by rfl) ?_; dsimp only)); refine bx_ (N := 2) (cs := #[.int .u32 a0_0, .string a0_1]) (t := 60) ?_; intro gb112 hg w8 hbox hb; have BK112 := Aside0.mk (hbox); have GW112 := ge_ hg; have GE112 := ge_ hg; replace HB := hb_ hb; clear hb hbox hg; obtain ⟨hcz9_0, hcz9_1⟩ := cl2_ BK112; have hfz9_0 := blk_frozen BK112.out 0; have hfz9_1 := blk_frozen BK112.out 1)))
      go_ret
      exact ⟨by first | rfl | (simp [errW_none, errW_some] <;> rfl) | (simp [*, errW_none, errW_some] <;> rfl), bel_⟩
  · rw [if_neg c3] at H
    have c3b0 : decide (a0_0 < a1) = false := decide_eq_false c3
    clear c3
    obtain rfl := Option.some.inj H
    go_enter Tryd.func25, Tryd.ntmps25
    go_wp2_with (first | ((with_reducible refine gate_dst (N := 2) rfl ?_); (try (refine gate_guard (by rfl) ?_; dsimp only)); refine bx_ (N := 2) (cs := #[.int .u32 a0_0, .string a0_1]) (t := 60) ?_; intro gb112 hg w10 hbox hb; have BK112 := Aside0.mk (hbox); have GW112 := ge_ hg; have GE112 := ge_ hg; replace HB := hb_ hb; clear hb hbox hg; obtain ⟨hcz11_0, hcz11_1⟩ := cl2_ BK112; obtain ⟨hfz11_0, hfz11_1⟩ := fz2_ BK112))
    repeat (go_quiet (first | ((with_reducible refine gate_dst (N := 2) rfl ?_); (try (refine gate_guard (by rfl) ?_; dsimp only)); refine bx_ (N := 2) (cs := #[.int .u32 a0_0, .string a0_1]) (t := 60) ?_; intro gb112 hg w10 hbox hb; have n0_ := Aside0.mk (below_step bel_ hb); have n1_ := Aside0.mk (hbox); have n2_ := Aside0.mk ((by rw [hg]; exact (below_size bel_) : w.heap.size ≤ gb112)); have n3_ := Aside0.mk ((by rw [hg]; exact (below_size bel_) : w.heap.size ≤ gb112)); clear HB; have HB := n0_; have BK112 := n1_; have GW112 := n2_; have GE112 := n3_; clear n0_ n1_ n2_ n3_; clear hb hbox hg; have hcz11_0 : w10.cell? ⟨gb112, 0, none⟩ = some (.int .u32 a0_0) := (blk_cell BK112.out 0).trans rfl; have hcz11_1 : w10.cell? ⟨gb112, 1, none⟩ = some (.string a0_1) := (blk_cell BK112.out 1).trans rfl; have hfz11_0 := blk_frozen BK112.out 0; have hfz11_1 := blk_frozen BK112.out 1)); try go_wp2_with (first | ((with_reducible refine gate_dst (N := 2) rfl ?_); (try (refine gate_guard (by rfl) ?_; dsimp only)); refine bx_ (N := 2) (cs := #[.int .u32 a0_0, .string a0_1]) (t := 60) ?_; intro gb112 hg w10 hbox hb; have BK112 := Aside0.mk (hbox); have GW112 := ge_ hg; have GE112 := ge_ hg; replace HB := hb_ hb; clear hb hbox hg; obtain ⟨hcz11_0, hcz11_1⟩ := cl2_ BK112; have hfz11_0 := blk_frozen BK112.out 0; have hfz11_1 := blk_frozen BK112.out 1)))
    go_ret
    exact ⟨by first | rfl | (simp [errW_none, errW_some] <;> rfl) | (simp [*, errW_none, errW_some] <;> rfl), bel_⟩

end Go.Proofs.YthbljhmjppjcjaaDoor.Z
end

section
/- slices.ContainsFunc over blocks, asked with dev.Check's function literal. -/
namespace Go.Proofs.YthbljhmjppjcjaaDoor.Z
open Go.RowKit Go.Proofs.YthbljhmjppjcjaaDoorW.PrintWords Go.Proofs.YthbljhmjppjcjaaDoorW.PrintLast Go.Proofs.YthbljhmjppjcjaaDoorW.PrintMore
set_option linter.unusedVariables false
set_option linter.unusedSimpArgs false
/-- Is one of them not right? -/
def anyF : List S60 → Int → Option Bool
  | [], _ => some false
  | x :: r, s => (dev_right.f x.f0 x.f1 s).bind fun b => if b = true then anyF r s else some true
def slices_ContainsFunc_api_Block_api_Block.f (l0 : List S60) (s0 : Int) (l1 l2 : List S60) (s3 : Bool) (s4 : Int) : Option Bool := anyF l0 s0
def devObj (s0 : Int) (v1 v2 : Value) (s3 : Bool) (s4 : Int) : Obj := .cells #[.int .u32 s0, v1, v2, .bool s3, .int .i64 s4] 30 (0, 0)
set_option maxRecDepth 100000 in
set_option maxHeartbeats 1600000 in
theorem lit_calls (x : S60) (g : Nat) (s0 : Int) (v1 v2 : Value) (s3 : Bool) (s4 : Int) (b : Bool) (w : World) (hb : w.heap[g]? = some (devObj s0 v1 v2 s3 s4)) (h : dev_right.f x.f0 x.f1 s0 = some b) :
    Calls Tryd.prog 27 #[.agg #[.int .u32 x.f0, .string x.f1], .pointer (some ⟨g, 0, none⟩)] w fun e w' => e = .returned (.bool (!b)) ∧ Below w.heap.size w w' := by
  have H := Aside0.mk h
  have hb1 := blk_alloc hb (.cells #[.int .u32 x.f0, .string x.f1] 60)
  have hc : (w.alloc (.cells #[.int .u32 x.f0, .string x.f1] 60)).cell? ⟨g, 0, none⟩ = some (.int .u32 s0) := (blk_cell hb1 0).trans rfl
  have HB0 : Aside0 (Below w.heap.size w (w.alloc (.cells #[.int .u32 x.f0, .string x.f1] 60))) := ⟨below_alloc (Below.refl _ _) _⟩
  have hnot : ∀ (x : Bool) (w : World), (Op.unary .not (.bool x)).run Tryd.prog w = .ok (.bool (!x)) w := fun _ _ => rfl
  clear h hb1 hb
  go_enter Tryd.func27, Tryd.ntmps27
  go_wp2_with (go_at_call 25; refine (dev_right.calls x.f0 x.f1 s0 b _ H.out).mono ?_; rintro e w1 ⟨rfl, h1⟩; have HB1 := Aside0.mk h1; clear h1)
  go_ret
  exact ⟨rfl, below_step HB0.out HB1.out⟩
set_option maxRecDepth 100000 in
set_option maxHeartbeats 3200000 in
theorem index_calls (A0 : Option Addr) (c0 : Nat) (l0 : List S60) (g : Nat) (s0 : Int) (v1 v2 : Value) (s3 : Bool) (s4 : Int) (r : Bool) (w : World) (hb : w.heap[g]? = some (devObj s0 v1 v2 s3 s4)) (hr0 : Kd.C k60 w A0 l0.length l0) (hc0 : l0.length ≤ c0) (h : anyF l0 s0 = some r) :
    Calls Tryd.prog 40 #[.slice A0 l0.length c0, .func (.func 27) #[] #[.pointer (some ⟨g, 0, none⟩)]] w fun e w' => ∃ i : Int, e = .returned (.int .i64 i) ∧ Aside0 ((0 ≤ i ↔ r = true) ∧ Below w.heap.size w w') := by
  have hmx := Kd.C_max hr0
  have HR := Aside0.mk hr0
  have HB := Aside0.mk hb
  have H0 := Aside0.mk h
  unfold maxLen at hmx
  clear hr0 hb h hc0
  go_enter Tryd.func40, Tryd.ntmps40
  go_wp2
  go_loopw [8] (fun i wr => ∃ x : Int, i = .int .i64 x ∧ Aside0 (0 ≤ x ∧ x ≤ l0.length) ∧ Aside0 (Below w.heap.size w wr) ∧ Aside0 (anyF (l0.drop x.toNat) s0 = some r)) (fun i _ => l0.length - (intOf i).toNat)
  case atStart => exact ⟨0, rfl, ⟨by omega⟩, ⟨Below.refl _ _⟩, ⟨H0.out⟩⟩
  case round =>
    obtain ⟨x, rfl, HX, HBW, HF⟩ := hrel
    obtain ⟨hx0, hx1⟩ := HX.out
    by_cases hlt : x < l0.length
    · obtain ⟨ad, hA, q0, q1⟩ := at_T60 HR.out x hx0 hlt
      subst hA
      replace q0 := (HBW.out.cell (World.block_lt_of_cell? w _ q0)).trans q0
      replace q1 := (HBW.out.cell (World.block_lt_of_cell? w _ q1)).trans q1
      have hlt2 : decide (x < (l0.length : Int)) = true := decide_eq_true hlt
      have p0 := eq_true hx0
      have p1 := eq_true hlt
      obtain ⟨e, he⟩ : ∃ e, e = rd_T60 l0 x := ⟨_, rfl⟩
      have hd : l0.drop x.toNat = e :: l0.drop (x + 1).toNat := by
        have hl : x.toNat < l0.length := by omega
        rw [List.drop_eq_getElem_cons hl, he, show (x + 1).toNat = x.toNat + 1 by omega]
        congr 1
        unfold rd_T60
        rw [List.getD_eq_getElem?_getD, List.getElem?_eq_getElem hl]
        rfl
      have hF := HF.out
      rw [hd, anyF] at hF
      obtain ⟨b, hb, hF⟩ := Option.bind_eq_some_iff.mp hF
      rw [← he] at q0 q1
      have HW : Aside0 (wr.heap[g]? = some (devObj s0 v1 v2 s3 s4)) := ⟨blk_below HB.out HBW.out⟩
      have HC := Aside0.mk hb
      clear hb hd hx0 hx1 hlt he
      cases b with
      | true =>
        rw [if_pos rfl] at hF
        have HG := Aside0.mk hF
        clear hF
        go_wp2_with (go_at_call 27; refine (lit_calls e g s0 v1 v2 s3 s4 true _ HW.out HC.out).mono ?_; rintro e_ w1 ⟨rfl, h1⟩; have HB1 := Aside0.mk h1; clear h1)
        have hx := HX.out
        have hl : x < l0.length := of_eq_true p1
        have ew : wrap64 (x + 1) = x + 1 := by unfold wrap64; omega
        refine ⟨⟨x + 1, by rw [ew], ⟨by omega⟩, ⟨below_step HBW.out HB1.out⟩, HG⟩, ?_⟩
        rw [ew]
        simp only [intOf]
        omega
      | false =>
        rw [if_neg (by decide)] at hF
        have HG := Aside0.mk hF
        clear hF
        go_wp2_with (go_at_call 27; refine (lit_calls e g s0 v1 v2 s3 s4 false _ HW.out HC.out).mono ?_; rintro e_ w1 ⟨rfl, h1⟩; have HB1 := Aside0.mk h1; clear h1)
        go_ret
        have hr := Option.some.inj HG.out
        have hx := HX.out
        exact ⟨x, rfl, ⟨⟨fun _ => hr.symm, fun _ => hx.1⟩, below_step HBW.out HB1.out⟩⟩
    · have hge : decide (x < (l0.length : Int)) = false := decide_eq_false hlt
      go_wp2
      go_ret
      have hF := HF.out
      rw [List.drop_eq_nil_of_le (by omega), anyF] at hF
      have hr := Option.some.inj hF
      refine ⟨-1, rfl, ⟨⟨fun h => absurd h (by decide), fun h => ?_⟩, HBW.out⟩⟩
      rw [← hr] at h
      cases h
set_option maxRecDepth 100000 in
theorem slices_ContainsFunc_api_Block_api_Block.calls (A0 : Option Addr) (c0 : Nat) (l0 : List S60) (g : Nat) (s0 : Int) (l1 l2 : List S60) (s3 : Bool) (s4 : Int) (r : Bool) (w : World)
    (hI : ∃ A1 c1 A2 c2, w.heap[g]? = some (.cells #[.int .u32 s0, .slice A1 l1.length c1, .slice A2 l2.length c2, .bool s3, .int .i64 s4] 30 (0, 0))) (hr0 : Kd.C k60 w A0 l0.length l0) (hc0 : l0.length ≤ c0)
    (h : slices_ContainsFunc_api_Block_api_Block.f l0 s0 l1 l2 s3 s4 = some r) :
    Calls Tryd.prog 26 #[.slice A0 l0.length c0, .func (.func 27) #[] #[.pointer (some ⟨g, 0, none⟩)]] w fun e w' => e = .returned (.bool r) ∧ Below w.heap.size w w' := by
  obtain ⟨A1, c1, A2, c2, hb⟩ := hI
  have HC := Aside0.mk (index_calls A0 c0 l0 g s0 (.slice A1 l1.length c1) (.slice A2 l2.length c2) s3 s4 r w hb hr0 hc0 h)
  clear hb hr0 h hc0
  go_enter Tryd.func26, Tryd.ntmps26
  go_wp2_with (go_at_call 40; refine HC.out.mono ?_; rintro e_ w1 ⟨i, rfl, HI⟩)
  go_ret
  have hi := HI.out
  have hE : decide (0 ≤ i) = r := by rw [Bool.eq_iff_iff, decide_eq_true_eq]; exact hi.1
  exact ⟨congrArg (fun b => Ending.returned (.bool b)) hE, hi.2⟩
end Go.Proofs.YthbljhmjppjcjaaDoor.Z
end

section
-- Printed by a program of this session (mp.py) out of the translation.
namespace Go.Proofs.YthbljhmjppjcjaaDoor.Z
open Go.RowKit Go.Proofs.YthbljhmjppjcjaaDoorW.PrintWords Go.Proofs.YthbljhmjppjcjaaDoorW.PrintLast Go.Proofs.YthbljhmjppjcjaaDoorW.PrintMore
attribute [local go_sem] max2_int min2_int max_two min_two max_three min_three max_four min_four   -- for this text's walks alone
set_option linter.unusedVariables false
set_option linter.unusedSimpArgs false

/-! ### dev_Check: function 14 -/
mutual
def dev_Check.j0 : Nat → Bool → Int → List (S60) → List (S60) → Bool → Int → Option (Int)
  | 0, _, _, _, _, _, _ => none
  | k + 1, x3, x116000, x116001, x116002, x116003, x116004 => dev_Check.l0 k x3 x116001 (x116001.length : Int) 0 x116000 x116001 x116002 x116003 x116004
def dev_Check.l0 : Nat → Bool → List (S60) → Int → Int → Int → List (S60) → List (S60) → Bool → Int → Option (Int)
  | 0, _, _, _, _, _, _, _, _, _ => none
  | k + 1, x3, x21, x22, x23, x116000, x116001, x116002, x116003, x116004 => if x23 < x22 then (if 0 ≤ x23 then (if x23 < (x21.length : Int) then (if x3 = true then ((dev_right.f ((rd_T60 x21 x23).f0) ((rd_T60 x21 x23).f1) x116000).bind fun t118 => (if t118 = true then (if ((rd_T60 x21 x23).f1).toList = ([] : List UInt8) then (dev_Check.l0 k false x21 x22 (wrap64 (x23 + 1)) x116000 x116001 x116002 x116003 x116004) else (if x23 = 0 then (dev_Check.l0 k true x21 x22 (wrap64 (x23 + 1)) x116000 x116001 x116002 x116003 x116004) else (if 0 ≤ (wrap64 (x23 - 1)) then (if (wrap64 (x23 - 1)) < (x116001.length : Int) then (dev_Check.l0 k (decide (((rd_T60 x116001 (wrap64 (x23 - 1))).f0) < ((rd_T60 x21 x23).f0))) x21 x22 (wrap64 (x23 + 1)) x116000 x116001 x116002 x116003 x116004) else (none)) else (none)))) else (dev_Check.l0 k false x21 x22 (wrap64 (x23 + 1)) x116000 x116001 x116002 x116003 x116004))) else (dev_Check.l0 k false x21 x22 (wrap64 (x23 + 1)) x116000 x116001 x116002 x116003 x116004)) else (none)) else (none)) else (if x3 = true then ((slices_ContainsFunc_api_Block_api_Block.f x116002 x116000 x116001 x116002 x116003 x116004).bind fun t120 => (if t120 = true then (some 7) else (some 0))) else (some 7))
end
def dev_Check.f (k : Nat) (a0_0 : Int) (l0_1 : List (S60)) (l0_2 : List (S60)) (a0_3 : Bool) (a0_4 : Int) : Option (Int) := if a0_0 ≥ 16 then (if a0_0 ≤ 65536 then (dev_Check.j0 k (decide ((l0_2.length : Int) ≤ 16384)) a0_0 l0_1 l0_2 a0_3 a0_4) else (dev_Check.j0 k false a0_0 l0_1 l0_2 a0_3 a0_4)) else (dev_Check.j0 k false a0_0 l0_1 l0_2 a0_3 a0_4)
theorem dev_Check.mono_l : ∀ k, (∀ y0 y1 y2 y3 y4 y5, LeO (dev_Check.j0 k y0 y1 y2 y3 y4 y5) (dev_Check.j0 (k + 1) y0 y1 y2 y3 y4 y5)) ∧ (∀ y0 y1 y2 y3 y4 y5 y6 y7 y8, LeO (dev_Check.l0 k y0 y1 y2 y3 y4 y5 y6 y7 y8) (dev_Check.l0 (k + 1) y0 y1 y2 y3 y4 y5 y6 y7 y8))
  | 0 => ⟨fun _ _ _ _ _ _ r h => by simp [dev_Check.j0] at h, fun _ _ _ _ _ _ _ _ _ r h => by simp [dev_Check.l0] at h⟩
  | k + 1 => by
    obtain ⟨ih0, ih1⟩ := dev_Check.mono_l k
    refine ⟨?_, ?_⟩
    · intro y0 y1 y2 y3 y4 y5
      unfold dev_Check.j0
      repeat' first
      | (with_reducible exact ih0 _ _ _ _ _ _)
      | (with_reducible exact ih1 _ _ _ _ _ _ _ _ _)
      | (with_reducible exact LeO.refl _)
      | (with_reducible exact LeO.none _)
      | (with_reducible refine LeO.ite ?_ ?_)
      | (with_reducible refine LeO.bind ?_ (fun _ => ?_))
      | exact ih0 _ _ _ _ _ _
      | exact ih1 _ _ _ _ _ _ _ _ _
      | exact LeO.none _
      | refine LeO.ite ?_ ?_
      | refine LeO.bind ?_ (fun _ => ?_)
    · intro y0 y1 y2 y3 y4 y5 y6 y7 y8
      unfold dev_Check.l0
      repeat' first
      | (with_reducible exact ih0 _ _ _ _ _ _)
      | (with_reducible exact ih1 _ _ _ _ _ _ _ _ _)
      | (with_reducible exact LeO.refl _)
      | (with_reducible exact LeO.none _)
      | (with_reducible refine LeO.ite ?_ ?_)
      | (with_reducible refine LeO.bind ?_ (fun _ => ?_))
      | exact ih0 _ _ _ _ _ _
      | exact ih1 _ _ _ _ _ _ _ _ _
      | exact LeO.none _
      | refine LeO.ite ?_ ?_
      | refine LeO.bind ?_ (fun _ => ?_)
theorem dev_Check.mono : ∀ a0 a1 a2 a3 a4 k, LeO (dev_Check.f k a0 a1 a2 a3 a4) (dev_Check.f (k + 1) a0 a1 a2 a3 a4) := by
  intro a0 a1 a2 a3 a4 k
  obtain ⟨ih0, ih1⟩ := dev_Check.mono_l k
  unfold dev_Check.f
  repeat' first
      | (with_reducible exact ih0 _ _ _ _ _ _)
      | (with_reducible exact ih1 _ _ _ _ _ _ _ _ _)
      | (with_reducible exact LeO.refl _)
      | (with_reducible exact LeO.none _)
      | (with_reducible refine LeO.ite ?_ ?_)
      | (with_reducible refine LeO.bind ?_ (fun _ => ?_))
      | exact ih0 _ _ _ _ _ _
      | exact ih1 _ _ _ _ _ _ _ _ _
      | exact LeO.none _
      | refine LeO.ite ?_ ?_
      | refine LeO.bind ?_ (fun _ => ?_)
def dev_Check.T5 : Bool × List (List Nat × List Nat) := (true, [([], []), ([0], [0]), ([1], [1]), ([1], [1]), ([3, 1], [1, 3]), ([2, 4, 1, 1], [1, 2, 4]), ([1, 5], [1, 5]), ([6, 5], [6]), ([7], [7]), ([8, 7], [7, 8]), ([9, 7], [7, 9]), ([7, 10], [7, 10]), ([11, 7], [11]), ([12], [12]), ([13, 12], [12, 13]), ([14, 12, 12], [12, 14]), ([15], [15]), ([16, 15], [15, 16]), ([15], [15]), ([18, 15], [15, 18]), ([17, 19, 15], [15, 17, 19]), ([20, 15], [15, 20]), ([21, 15], [15, 21]), ([15], [15]), ([23, 15], [15, 23]), ([22, 24, 15], [15, 22, 24]), ([15, 25, 12], [12, 15, 25]), ([12, 26], [12, 26]), ([27, 15, 0, 1, 2, 3, 4, 5, 6, 7, 8, 9, 10, 11, 12, 13, 14, 15, 16, 17, 18, 19, 20, 21, 22, 23, 24, 25, 26, 27], [0, 27])])
def dev_Check.B5 : List Nat := [0, 1, 3, 3, 11, 31, 63, 127, 255, 511, 1023, 2047, 4095, 8191, 16383, 32767, 65535, 131071, 65535, 327679, 1048575, 2097151, 4194303, 65535, 8454143, 33554431, 67108863, 134217727, 268435455]
theorem dev_Check.tab5 : rtab .any (opsOf Tryd.f14 5) = dev_Check.T5 := by kernel_rfl
theorem dev_Check.bits5 : waitsOk dev_Check.T5.2 dev_Check.B5 = true := by kernel_rfl
set_option maxHeartbeats 8000000 in
set_option maxRecDepth 100000 in
theorem dev_Check.calls (k : Nat) (a0_0 : Int) (A0_1 : Option Addr) (c0_1 : Nat) (l0_1 : List (S60)) (A0_2 : Option Addr) (c0_2 : Nat) (l0_2 : List (S60)) (a0_3 : Bool) (a0_4 : Int) (r : Int) (w : World) (hr0_1 : Kd.C k60 w A0_1 l0_1.length l0_1) (hc0_1 : l0_1.length ≤ c0_1) (hr0_2 : Kd.C k60 w A0_2 l0_2.length l0_2) (hc0_2 : l0_2.length ≤ c0_2) (h : dev_Check.f k a0_0 l0_1 l0_2 a0_3 a0_4 = some r) :
    Calls Tryd.prog 14 #[.agg #[.int .u32 a0_0, .slice A0_1 l0_1.length c0_1, .slice A0_2 l0_2.length c0_2, .bool a0_3, .int .i64 a0_4]] w fun e w' => e = .returned (.int .i64 r) ∧ Below w.heap.size w w' := by
  have hmf_ : ∀ (fn : Fn) (first cap : Array Value) (w : World), (Instr.makeFunc fn first cap).run Tryd.prog w = .ok (.func fn first cap) w := fun _ _ _ _ => rfl
  have hu30 := Tryd.underlying30
  have hu60 := Tryd.underlying60
  have HR0_1 := Aside0.mk hr0_1
  have HC0_1 := Aside0.mk hc0_1
  clear hr0_1 hc0_1
  have HR0_2 := Aside0.mk hr0_2
  have HC0_2 := Aside0.mk hc0_2
  clear hr0_2 hc0_2
  have HB := Aside0.mk (Below.refl w.heap.size w)
  have H : (if a0_0 ≥ 16 then (if a0_0 ≤ 65536 then (dev_Check.j0 k (decide ((l0_2.length : Int) ≤ 16384)) a0_0 l0_1 l0_2 a0_3 a0_4) else (dev_Check.j0 k false a0_0 l0_1 l0_2 a0_3 a0_4)) else (dev_Check.j0 k false a0_0 l0_1 l0_2 a0_3 a0_4)) = some r := h
  clear h
  have HC2 := Aside0.mk H
  clear H
  go_enter Tryd.func14, Tryd.ntmps14
  go_upto_region 1 with (first | ((with_reducible refine gate_dst (N := 1) rfl ?_); (try (refine gate_guard (by rfl) ?_; dsimp only)); refine bx_ (N := 1) (cs := #[.int .u32 a0_0, .slice A0_1 l0_1.length c0_1, .slice A0_2 l0_2.length c0_2, .bool a0_3, .int .i64 a0_4]) (t := 30) ?_; intro gb115 hg w3 hbox hb; have n0_ := Aside0.mk (below_step bel_ hb); have n1_ := Aside0.mk (hbox); have n2_ := Aside0.mk ((by rw [hg]; exact (below_size bel_) : w.heap.size ≤ gb115)); have n3_ := Aside0.mk ((by rw [hg]; exact (below_size bel_) : w.heap.size ≤ gb115)); clear HB; have HB := n0_; have BK115 := n1_; have GW115 := n2_; have GE115 := n3_; clear n0_ n1_ n2_ n3_; clear hb hbox hg))
  (try simp only [Act.put, List.setIfInBounds_toArray, List.set_cons_zero, List.set_cons_succ])
  go_cut [3] (fun v3 wc => ∃ (kq : Nat) (x3_1 : Bool), v3 = .bool x3_1 ∧ Aside0 (dev_Check.j0 kq x3_1 a0_0 l0_1 l0_2 a0_3 a0_4 = some r) ∧ Aside0 (kq ≤ k) ∧ Aside0 (wc.heap[gb115]? = some (.cells #[.int .u32 a0_0, (.slice A0_1 l0_1.length c0_1), (.slice A0_2 l0_2.length c0_2), .bool a0_3, .int .i64 a0_4] 30 (0, 0))) ∧ Aside0 (Below w.heap.size w wc))
  case first =>
    have H := HC2.out
    clear HC2
    by_cases c4 : a0_0 ≥ 16
    · rw [if_pos c4] at H
      have c4b0 : decide (16 ≤ a0_0) = true := decide_eq_true c4
      clear c4
      (first | rw [c4b0] | (simp only [i64_w, i32_w]; rw [c4b0]) | skip)
      by_cases c5 : a0_0 ≤ 65536
      · rw [if_pos c5] at H
        have c5b0 : decide (a0_0 ≤ 65536) = true := decide_eq_true c5
        clear c5
        have H' := Aside0.mk H
        clear H
        obtain ⟨hcz6_0, hcz6_1, hcz6_2, hcz6_3, hcz6_4⟩ := cl5_ BK115
        obtain ⟨hfz6_0, hfz6_1, hfz6_2, hfz6_3, hfz6_4⟩ := fz5_ BK115
        go_wp2
        go_meet
        case rel => exact ⟨_, (decide ((l0_2.length : Int) ≤ 16384)), (by first | rfl | (simp; done) | (simp [*]; done)), H', ⟨by first | omega | exact Nat.le_refl _⟩, ⟨bk_ BK115⟩, ⟨bel_⟩⟩
      · rw [if_neg c5] at H
        have c5b0 : decide (a0_0 ≤ 65536) = false := decide_eq_false c5
        clear c5
        have H' := Aside0.mk H
        clear H
        obtain ⟨hcz7_0, hcz7_1, hcz7_2, hcz7_3, hcz7_4⟩ := cl5_ BK115
        obtain ⟨hfz7_0, hfz7_1, hfz7_2, hfz7_3, hfz7_4⟩ := fz5_ BK115
        go_wp2
        go_meet
        case rel => exact ⟨_, (false), (by first | rfl | (simp; done) | (simp [*]; done)), H', ⟨by first | omega | exact Nat.le_refl _⟩, ⟨bk_ BK115⟩, ⟨bel_⟩⟩
    · rw [if_neg c4] at H
      have c4b0 : decide (16 ≤ a0_0) = false := decide_eq_false c4
      clear c4
      (first | rw [c4b0] | (simp only [i64_w, i32_w]; rw [c4b0]) | skip)
      have H' := Aside0.mk H
      clear H
      obtain ⟨hcz8_0, hcz8_1, hcz8_2, hcz8_3, hcz8_4⟩ := cl5_ BK115
      obtain ⟨hfz8_0, hfz8_1, hfz8_2, hfz8_3, hfz8_4⟩ := fz5_ BK115
      go_wp2
      go_meet
      case rel => exact ⟨_, (false), (by first | rfl | (simp; done) | (simp [*]; done)), H', ⟨by first | omega | exact Nat.le_refl _⟩, ⟨bk_ BK115⟩, ⟨bel_⟩⟩
  case rest =>
    clear HC2
    try clear c1
    try clear p2
    try clear c4
    try clear c4b0
    try clear c5
    try clear c5b0
    try clear hcz6_0
    try clear hcz6_1
    try clear hcz6_2
    try clear hcz6_3
    try clear hcz6_4
    try clear hcz7_0
    try clear hcz7_1
    try clear hcz7_2
    try clear hcz7_3
    try clear hcz7_4
    try clear hcz8_0
    try clear hcz8_1
    try clear hcz8_2
    try clear hcz8_3
    try clear hcz8_4
    try clear hfz6_0
    try clear hfz6_1
    try clear hfz6_2
    try clear hfz6_3
    try clear hfz6_4
    try clear hfz7_0
    try clear hfz7_1
    try clear hfz7_2
    try clear hfz7_3
    try clear hfz7_4
    try clear hfz8_0
    try clear hfz8_1
    try clear hfz8_2
    try clear hfz8_3
    try clear hfz8_4
    obtain ⟨kq, x3_1, rfl, HA, HJ1, BK115, HB⟩ := hcut
    cases kq with
    | zero => exact absurd HA.out (by simp [dev_Check.j0])
    | succ kj1 =>
      have H := HA.out
      clear HA
      simp only [dev_Check.j0] at H
      have H' := Aside0.mk H
      clear H
      obtain ⟨hcz9_0, hcz9_1, hcz9_2, hcz9_3, hcz9_4⟩ := cl5_ BK115
      obtain ⟨hfz9_0, hfz9_1, hfz9_2, hfz9_3, hfz9_4⟩ := fz5_ BK115
      go_wp2
      go_loopg [3, 23] kj1 (fun kq v3 v23 w' => ∃ (x3_2 : Bool) (x23_2 : Int), v3 = .bool x3_2 ∧ v23 = .int .i64 x23_2 ∧ Aside0 (dev_Check.l0 kq x3_2 l0_1 (l0_1.length : Int) x23_2 a0_0 l0_1 l0_2 a0_3 a0_4 = some r) ∧ Aside0 (kq ≤ kj1) ∧ Aside0 (w'.heap[gb115]? = some (.cells #[.int .u32 a0_0, (.slice A0_1 l0_1.length c0_1), (.slice A0_2 l0_2.length c0_2), .bool a0_3, .int .i64 a0_4] 30 (0, 0))) ∧ Aside0 (Below w.heap.size w w'))
      case atStart => exact ⟨(x3_1), (0), (by first | rfl | (simp; done) | (simp [*]; done)), (by first | rfl | (simp; done) | (simp [*]; done)), H', ⟨Nat.le_refl _⟩, ⟨bk_ BK115⟩, ⟨bel_⟩⟩
      case round =>
        clear H'
        try clear c1
        try clear p2
        try clear c4
        try clear c4b0
        try clear c5
        try clear c5b0
        try clear hcz6_0
        try clear hcz6_1
        try clear hcz6_2
        try clear hcz6_3
        try clear hcz6_4
        try clear hcz7_0
        try clear hcz7_1
        try clear hcz7_2
        try clear hcz7_3
        try clear hcz7_4
        try clear hcz8_0
        try clear hcz8_1
        try clear hcz8_2
        try clear hcz8_3
        try clear hcz8_4
        try clear hcz9_0
        try clear hcz9_1
        try clear hcz9_2
        try clear hcz9_3
        try clear hcz9_4
        try clear hfz6_0
        try clear hfz6_1
        try clear hfz6_2
        try clear hfz6_3
        try clear hfz6_4
        try clear hfz7_0
        try clear hfz7_1
        try clear hfz7_2
        try clear hfz7_3
        try clear hfz7_4
        try clear hfz8_0
        try clear hfz8_1
        try clear hfz8_2
        try clear hfz8_3
        try clear hfz8_4
        try clear hfz9_0
        try clear hfz9_1
        try clear hfz9_2
        try clear hfz9_3
        try clear hfz9_4
        try clear p2
        obtain ⟨x3_2, x23_2, rfl, rfl, HA, HK2, BK115, HB⟩ := hrel
        cases gk with
        | zero => exact absurd HA.out (by simp [dev_Check.l0])
        | succ k2 =>
          have H := HA.out
          clear HA
          simp only [dev_Check.l0] at H
          by_cases c10 : x23_2 < (l0_1.length : Int)
          · rw [if_pos c10] at H
            have c10b0 : decide (x23_2 < (l0_1.length : Int)) = true := decide_eq_true c10
            clear c10
            by_cases c11 : 0 ≤ x23_2
            · rw [if_pos c11] at H
              have c11b0 : decide (0 ≤ x23_2) = true := decide_eq_true c11
              clear c11
              by_cases c12 : x23_2 < (l0_1.length : Int)
              · rw [if_pos c12] at H
                have c12b0 : decide (x23_2 < (l0_1.length : Int)) = true := decide_eq_true c12
                clear c12
                by_cases c13 : x3_2 = true
                · subst c13
                  have H1 : ((dev_right.f ((rd_T60 l0_1 x23_2).f0) ((rd_T60 l0_1 x23_2).f1) a0_0).bind fun t118 => (if t118 = true then (if ((rd_T60 l0_1 x23_2).f1).toList = ([] : List UInt8) then (dev_Check.l0 k2 false l0_1 (l0_1.length : Int) (wrap64 (x23_2 + 1)) a0_0 l0_1 l0_2 a0_3 a0_4) else (if x23_2 = 0 then (dev_Check.l0 k2 true l0_1 (l0_1.length : Int) (wrap64 (x23_2 + 1)) a0_0 l0_1 l0_2 a0_3 a0_4) else (if 0 ≤ (wrap64 (x23_2 - 1)) then (if (wrap64 (x23_2 - 1)) < (l0_1.length : Int) then (dev_Check.l0 k2 (decide (((rd_T60 l0_1 (wrap64 (x23_2 - 1))).f0) < ((rd_T60 l0_1 x23_2).f0))) l0_1 (l0_1.length : Int) (wrap64 (x23_2 + 1)) a0_0 l0_1 l0_2 a0_3 a0_4) else (none)) else (none)))) else (dev_Check.l0 k2 false l0_1 (l0_1.length : Int) (wrap64 (x23_2 + 1)) a0_0 l0_1 l0_2 a0_3 a0_4))) = some r := by rw [if_pos rfl] at H; exact H
                  clear H
                  have H := H1
                  clear H1
                  replace H := Option.bind_eq_some_iff.mp H
                  obtain ⟨t118, A140, H⟩ := H
                  replace H : (if t118 = true then (if ((rd_T60 l0_1 x23_2).f1).toList = ([] : List UInt8) then (dev_Check.l0 k2 false l0_1 (l0_1.length : Int) (wrap64 (x23_2 + 1)) a0_0 l0_1 l0_2 a0_3 a0_4) else (if x23_2 = 0 then (dev_Check.l0 k2 true l0_1 (l0_1.length : Int) (wrap64 (x23_2 + 1)) a0_0 l0_1 l0_2 a0_3 a0_4) else (if 0 ≤ (wrap64 (x23_2 - 1)) then (if (wrap64 (x23_2 - 1)) < (l0_1.length : Int) then (dev_Check.l0 k2 (decide (((rd_T60 l0_1 (wrap64 (x23_2 - 1))).f0) < ((rd_T60 l0_1 x23_2).f0))) l0_1 (l0_1.length : Int) (wrap64 (x23_2 + 1)) a0_0 l0_1 l0_2 a0_3 a0_4) else (none)) else (none)))) else (dev_Check.l0 k2 false l0_1 (l0_1.length : Int) (wrap64 (x23_2 + 1)) a0_0 l0_1 l0_2 a0_3 a0_4)) = some r := H
                  have A14 := Aside0.mk A140
                  clear A140
                  by_cases c15 : t118 = true
                  · subst c15
                    have H1 : (if ((rd_T60 l0_1 x23_2).f1).toList = ([] : List UInt8) then (dev_Check.l0 k2 false l0_1 (l0_1.length : Int) (wrap64 (x23_2 + 1)) a0_0 l0_1 l0_2 a0_3 a0_4) else (if x23_2 = 0 then (dev_Check.l0 k2 true l0_1 (l0_1.length : Int) (wrap64 (x23_2 + 1)) a0_0 l0_1 l0_2 a0_3 a0_4) else (if 0 ≤ (wrap64 (x23_2 - 1)) then (if (wrap64 (x23_2 - 1)) < (l0_1.length : Int) then (dev_Check.l0 k2 (decide (((rd_T60 l0_1 (wrap64 (x23_2 - 1))).f0) < ((rd_T60 l0_1 x23_2).f0))) l0_1 (l0_1.length : Int) (wrap64 (x23_2 + 1)) a0_0 l0_1 l0_2 a0_3 a0_4) else (none)) else (none)))) = some r := by rw [if_pos rfl] at H; exact H
                    clear H
                    have H := H1
                    clear H1
                    by_cases c16 : ((rd_T60 l0_1 x23_2).f1).toList = ([] : List UInt8)
                    · rw [if_pos c16] at H
                      have c16b0 : (((rd_T60 l0_1 x23_2).f1).toList == ([] : List UInt8)) = true := beq_iff_eq.mpr c16
                      have c16b1 : (((rd_T60 l0_1 x23_2).f1).toList != ([] : List UInt8)) = false := bne_eq_false_iff_eq.mpr c16
                      clear c16
                      have H' := Aside0.mk H
                      clear H
                      have p116 : 0 ≤ (x23_2 : Int) := of_decide_eq_true (by first | (with_reducible assumption) | assumption)
                      have q116 : x23_2 < (l0_1.length : Int) := of_decide_eq_true (by first | (with_reducible assumption) | assumption)
                      obtain ⟨ad116, e116, hx116_0, hx116_1⟩ := at_T60 HR0_1.out x23_2 p116 q116
                      cases e116
                      replace hx116_0 := (HB.out.cell (World.block_lt_of_cell? w _ hx116_0)).trans hx116_0
                      replace hx116_1 := (HB.out.cell (World.block_lt_of_cell? w _ hx116_1)).trans hx116_1
                      replace p116 := eq_true p116
                      replace q116 := eq_true q116
                      try go_wp2_with (first | ((with_reducible refine gate_dst (N := 5) rfl ?_); (try (refine gate_guard (by rfl) ?_; dsimp only)); refine bx_ (N := 5) (cs := #[.int .u32 0, .string (⟨#[]⟩ : ByteArray)]) (t := 60) ?_; intro gb117 hg w17 hbox hb; have BK117 := Aside0.mk (hbox); have GW117 := ge_ hg; have GE117 := ge_ hg; have NB115_117 := nl_ BK115 hg; have NB117_115 := ng_ BK115 hg; replace BK115 := kb_ BK115 hb; replace HB := hb_ hb; clear hb hbox hg; have hnb18 := NB117_115.out; have hnc18 := NB115_117.out; obtain ⟨hcz19_0, hcz19_1⟩ := cl2_ BK117; obtain ⟨hfz19_0, hfz19_1⟩ := fz2_ BK117))
                      have n0_ : Aside0 (((w17.setCell ⟨gb117, 0, none⟩ (.int .u32 ((rd_T60 l0_1 x23_2).f0))).setCell ⟨gb117, 1, none⟩ (.string ((rd_T60 l0_1 x23_2).f1))).heap[gb115]? = some (.cells #[.int .u32 a0_0, .slice (some ad116) l0_1.length c0_1, .slice A0_2 l0_2.length c0_2, .bool a0_3, .int .i64 a0_4] 30 (0, 0))) := ⟨bs_⟩
                      have n1_ : Aside0 (((w17.setCell ⟨gb117, 0, none⟩ (.int .u32 ((rd_T60 l0_1 x23_2).f0))).setCell ⟨gb117, 1, none⟩ (.string ((rd_T60 l0_1 x23_2).f1))).heap[gb117]? = some (.cells #[.int .u32 ((rd_T60 l0_1 x23_2).f0), .string ((rd_T60 l0_1 x23_2).f1)] 60 (0, 0))) := ⟨bs_⟩
                      have n2_ : Aside0 (Below w.heap.size w ((w17.setCell ⟨gb117, 0, none⟩ (.int .u32 ((rd_T60 l0_1 x23_2).f0))).setCell ⟨gb117, 1, none⟩ (.string ((rd_T60 l0_1 x23_2).f1)))) := ⟨bel_⟩
                      (try clear BK115)
                      (try clear BK117)
                      (try clear HB)
                      generalize ((w17.setCell ⟨gb117, 0, none⟩ (.int .u32 ((rd_T60 l0_1 x23_2).f0))).setCell ⟨gb117, 1, none⟩ (.string ((rd_T60 l0_1 x23_2).f1))) = w20 at n0_ n1_ n2_ ⊢
                      have BK115 := n0_
                      have BK117 := n1_
                      have HB := n2_
                      clear n0_ n1_ n2_
                      replace BK115 := Aside0.mk (blk_drew BK115.out)
                      replace BK117 := Aside0.mk (blk_drew BK117.out)
                      replace HB := Aside0.mk (below_drew1 HB.out)
                      refine start_ (n := 29) (S := fun w' => w'.cell? ⟨gb117, 0, none⟩ = some (.int .u32 ((rd_T60 l0_1 x23_2).f0)) ∧ w'.cell? ⟨gb117, 1, none⟩ = some (.string ((rd_T60 l0_1 x23_2).f1)) ∧ w'.cell? ⟨gb115, 0, none⟩ = some (.int .u32 a0_0) ∧ w'.cell? ⟨gb115, 1, none⟩ = some (.slice (some ad116) l0_1.length c0_1) ∧ w'.cell? ⟨gb115, 2, none⟩ = some (.slice A0_2 l0_2.length c0_2) ∧ w'.cell? ⟨gb115, 3, none⟩ = some (.bool a0_3) ∧ w'.cell? ⟨gb115, 4, none⟩ = some (.int .i64 a0_4)) (ds := []) #[false, false, false, false, false, false, false, false, false, false, false, false, false, false, false, false, false, false, false, false, false, false, false, false, false, false, false, false, false] (by kernel_rfl) rfl rfl hc_ (fun hHeld => ?_); refine with_tabW dev_Check.tab5 dev_Check.bits5 (fun HT_ HW_ => ?_)
                      generalize w20.drew = w21 at BK115 BK117 HB hHeld ⊢
                      refine pu_ 0 28 ?_
                      refine pu_ 1 29 ?_
                      refine pu_ 3 31 ?_
                      refine tk7_ 2 30 ?_
                      refine tk7_ 4 32 ?_
                      refine on_ 5 33 (fun K hK => ?_)
                      refine goes_ Tryd.func25 (by kernel_rfl) rfl #[.agg #[.int .u32 ((rd_T60 l0_1 x23_2).f0), .string ((rd_T60 l0_1 x23_2).f1)], .int .u32 a0_0] (by rfl) rfl rfl (by (try simp only [List.map_toArray, List.map_cons, List.map_nil]); first | done | rfl | (simp only [List.length_drop, List.length_take]; rfl)) ?_
                      with_reducible refine (dev_right.calls ((rd_T60 l0_1 x23_2).f0) ((rd_T60 l0_1 x23_2).f1) a0_0 true _ A14.out).mono ?_
                      rintro e w22 ⟨rfl, hb⟩
                      refine ⟨_, rfl, ?_⟩
                      replace BK115 := kb_ BK115 hb
                      replace BK117 := kb_ BK117 hb
                      replace HB := hb_ hb
                      (try clear hb)
                      (try clear hb2)
                      (try clear hk)
                      (try clear hi)
                      refine hK.out _ _ hc_ (fun hHeld => ?_)
                      clear hK K
                      refine nm_ 33 ?_
                      refine pu_ 6 34 ?_
                      refine pu_ 7 35 ?_
                      refine pu_ 8 36 ?_
                      refine tk7_ 9 37 ?_
                      refine pu_ 10 38 ?_
                      refine pu_ 11 39 ?_
                      refine pu_ 12 40 ?_
                      refine un_ 13 41 ?_
                      refine un_ 14 42 ?_
                      refine un_ 15 43 ?_
                      refine un_ 16 44 ?_
                      refine un_ 17 45 ?_
                      refine un_ 18 46 ?_
                      refine un_ 19 47 ?_
                      refine un_ 20 48 ?_
                      refine un_ 21 49 ?_
                      refine un_ 22 50 ?_
                      refine un_ 23 51 ?_
                      refine un_ 24 52 ?_
                      refine un_ 25 53 ?_
                      refine un_ 26 54 ?_
                      refine pu_ 27 55 ?_
                      refine pu_ 28 3 ?_
                      refine done_ (done_of HT_.out (by kernel_rfl)) ?_
                      try go_wp2
                      go_roundg k2
                      case measure => have := HJ1.out; have := HK2.out; omega
                      case rel => exact ⟨(false), (wrap64 (x23_2 + 1)), (by first | rfl | (simp; done) | (simp [*]; done)), (by first | rfl | (simp; done) | (simp [*]; done)), H', ⟨by have := HJ1.out; have := HK2.out; omega⟩, ⟨bk_ BK115⟩, ⟨bel_⟩⟩
                    · rw [if_neg c16] at H
                      have c16b0 : (((rd_T60 l0_1 x23_2).f1).toList == ([] : List UInt8)) = false := beq_eq_false_iff_ne.mpr c16
                      have c16b1 : (((rd_T60 l0_1 x23_2).f1).toList != ([] : List UInt8)) = true := bne_iff_ne.mpr c16
                      by_cases c23 : x23_2 = 0
                      · rw [if_pos c23] at H
                        have c23b0 : (x23_2 == 0) = true := beq_iff_eq.mpr c23
                        have c23b1 : (x23_2 != 0) = false := bne_eq_false_iff_eq.mpr c23
                        clear c23
                        have H' := Aside0.mk H
                        clear H
                        have p116 : 0 ≤ (x23_2 : Int) := of_decide_eq_true (by first | (with_reducible assumption) | assumption)
                        have q116 : x23_2 < (l0_1.length : Int) := of_decide_eq_true (by first | (with_reducible assumption) | assumption)
                        obtain ⟨ad116, e116, hx116_0, hx116_1⟩ := at_T60 HR0_1.out x23_2 p116 q116
                        cases e116
                        replace hx116_0 := (HB.out.cell (World.block_lt_of_cell? w _ hx116_0)).trans hx116_0
                        replace hx116_1 := (HB.out.cell (World.block_lt_of_cell? w _ hx116_1)).trans hx116_1
                        replace p116 := eq_true p116
                        replace q116 := eq_true q116
                        try go_wp2_with (first | ((with_reducible refine gate_dst (N := 5) rfl ?_); (try (refine gate_guard (by rfl) ?_; dsimp only)); refine bx_ (N := 5) (cs := #[.int .u32 0, .string (⟨#[]⟩ : ByteArray)]) (t := 60) ?_; intro gb117 hg w24 hbox hb; have BK117 := Aside0.mk (hbox); have GW117 := ge_ hg; have GE117 := ge_ hg; have NB115_117 := nl_ BK115 hg; have NB117_115 := ng_ BK115 hg; replace BK115 := kb_ BK115 hb; replace HB := hb_ hb; clear hb hbox hg; have hnb25 := NB117_115.out; have hnc25 := NB115_117.out; obtain ⟨hcz26_0, hcz26_1⟩ := cl2_ BK117; obtain ⟨hfz26_0, hfz26_1⟩ := fz2_ BK117))
                        have n0_ : Aside0 (((w24.setCell ⟨gb117, 0, none⟩ (.int .u32 ((rd_T60 l0_1 x23_2).f0))).setCell ⟨gb117, 1, none⟩ (.string ((rd_T60 l0_1 x23_2).f1))).heap[gb115]? = some (.cells #[.int .u32 a0_0, .slice (some ad116) l0_1.length c0_1, .slice A0_2 l0_2.length c0_2, .bool a0_3, .int .i64 a0_4] 30 (0, 0))) := ⟨bs_⟩
                        have n1_ : Aside0 (((w24.setCell ⟨gb117, 0, none⟩ (.int .u32 ((rd_T60 l0_1 x23_2).f0))).setCell ⟨gb117, 1, none⟩ (.string ((rd_T60 l0_1 x23_2).f1))).heap[gb117]? = some (.cells #[.int .u32 ((rd_T60 l0_1 x23_2).f0), .string ((rd_T60 l0_1 x23_2).f1)] 60 (0, 0))) := ⟨bs_⟩
                        have n2_ : Aside0 (Below w.heap.size w ((w24.setCell ⟨gb117, 0, none⟩ (.int .u32 ((rd_T60 l0_1 x23_2).f0))).setCell ⟨gb117, 1, none⟩ (.string ((rd_T60 l0_1 x23_2).f1)))) := ⟨bel_⟩
                        (try clear BK115)
                        (try clear BK117)
                        (try clear HB)
                        generalize ((w24.setCell ⟨gb117, 0, none⟩ (.int .u32 ((rd_T60 l0_1 x23_2).f0))).setCell ⟨gb117, 1, none⟩ (.string ((rd_T60 l0_1 x23_2).f1))) = w27 at n0_ n1_ n2_ ⊢
                        have BK115 := n0_
                        have BK117 := n1_
                        have HB := n2_
                        clear n0_ n1_ n2_
                        replace BK115 := Aside0.mk (blk_drew BK115.out)
                        replace BK117 := Aside0.mk (blk_drew BK117.out)
                        replace HB := Aside0.mk (below_drew1 HB.out)
                        refine start_ (n := 29) (S := fun w' => w'.cell? ⟨gb117, 0, none⟩ = some (.int .u32 ((rd_T60 l0_1 x23_2).f0)) ∧ w'.cell? ⟨gb117, 1, none⟩ = some (.string ((rd_T60 l0_1 x23_2).f1)) ∧ w'.cell? ⟨gb115, 0, none⟩ = some (.int .u32 a0_0) ∧ w'.cell? ⟨gb115, 1, none⟩ = some (.slice (some ad116) l0_1.length c0_1) ∧ w'.cell? ⟨gb115, 2, none⟩ = some (.slice A0_2 l0_2.length c0_2) ∧ w'.cell? ⟨gb115, 3, none⟩ = some (.bool a0_3) ∧ w'.cell? ⟨gb115, 4, none⟩ = some (.int .i64 a0_4)) (ds := []) #[false, false, false, false, false, false, false, false, false, false, false, false, false, false, false, false, false, false, false, false, false, false, false, false, false, false, false, false, false] (by kernel_rfl) rfl rfl hc_ (fun hHeld => ?_); refine with_tabW dev_Check.tab5 dev_Check.bits5 (fun HT_ HW_ => ?_)
                        generalize w27.drew = w28 at BK115 BK117 HB hHeld ⊢
                        refine pu_ 0 28 ?_
                        refine pu_ 1 29 ?_
                        refine pu_ 3 31 ?_
                        refine tk7_ 2 30 ?_
                        refine tk7_ 4 32 ?_
                        refine on_ 5 33 (fun K hK => ?_)
                        refine goes_ Tryd.func25 (by kernel_rfl) rfl #[.agg #[.int .u32 ((rd_T60 l0_1 x23_2).f0), .string ((rd_T60 l0_1 x23_2).f1)], .int .u32 a0_0] (by rfl) rfl rfl (by (try simp only [List.map_toArray, List.map_cons, List.map_nil]); first | done | rfl | (simp only [List.length_drop, List.length_take]; rfl)) ?_
                        with_reducible refine (dev_right.calls ((rd_T60 l0_1 x23_2).f0) ((rd_T60 l0_1 x23_2).f1) a0_0 true _ A14.out).mono ?_
                        rintro e w29 ⟨rfl, hb⟩
                        refine ⟨_, rfl, ?_⟩
                        replace BK115 := kb_ BK115 hb
                        replace BK117 := kb_ BK117 hb
                        replace HB := hb_ hb
                        (try clear hb)
                        (try clear hb2)
                        (try clear hk)
                        (try clear hi)
                        refine hK.out _ _ hc_ (fun hHeld => ?_)
                        clear hK K
                        refine nm_ 33 ?_
                        refine pu_ 6 34 ?_
                        refine pu_ 7 35 ?_
                        refine pu_ 8 36 ?_
                        refine tk7_ 9 37 ?_
                        refine pu_ 10 38 ?_
                        refine pu_ 11 39 ?_
                        refine pu_ 12 40 ?_
                        refine pu_ 13 41 ?_
                        refine pu_ 14 42 ?_
                        refine pu_ 15 43 ?_
                        refine un_ 16 44 ?_
                        refine un_ 17 45 ?_
                        refine un_ 18 46 ?_
                        refine un_ 19 47 ?_
                        refine un_ 20 48 ?_
                        refine un_ 21 49 ?_
                        refine un_ 22 50 ?_
                        refine un_ 23 51 ?_
                        refine un_ 24 52 ?_
                        refine un_ 25 53 ?_
                        refine pu_ 26 54 ?_
                        refine pu_ 27 55 ?_
                        refine pu_ 28 3 ?_
                        refine done_ (done_of HT_.out (by kernel_rfl)) ?_
                        try go_wp2
                        go_roundg k2
                        case measure => have := HJ1.out; have := HK2.out; omega
                        case rel => exact ⟨(true), (wrap64 (x23_2 + 1)), (by first | rfl | (simp; done) | (simp [*]; done)), (by first | rfl | (simp; done) | (simp [*]; done)), H', ⟨by have := HJ1.out; have := HK2.out; omega⟩, ⟨bk_ BK115⟩, ⟨bel_⟩⟩
                      · rw [if_neg c23] at H
                        have c23b0 : (x23_2 == 0) = false := beq_eq_false_iff_ne.mpr c23
                        have c23b1 : (x23_2 != 0) = true := bne_iff_ne.mpr c23
                        obtain ⟨ji30, hji30⟩ : ∃ j_ : Int, (wrap64 (x23_2 - 1)) = j_ := ⟨_, rfl⟩
                        replace H : (if 0 ≤ (ji30) then (if (ji30) < (l0_1.length : Int) then (dev_Check.l0 k2 (decide (((rd_T60 l0_1 (ji30)).f0) < ((rd_T60 l0_1 x23_2).f0))) l0_1 (l0_1.length : Int) (wrap64 (x23_2 + 1)) a0_0 l0_1 l0_2 a0_3 a0_4) else (none)) else (none)) = some r := by first | (rw [hji30] at H; exact H) | (simp only [hji30] at H ⊢; exact H)
                        (try rw [hji30] at A14)
                        have hji30w : (IntKind.i64.wrap (x23_2 - 1)) = ji30 := (i64_w _).trans hji30
                        by_cases c31 : 0 ≤ (ji30)
                        · rw [if_pos c31] at H
                          have c31b0 : decide (0 ≤ (ji30)) = true := decide_eq_true c31
                          clear c31
                          by_cases c32 : (ji30) < (l0_1.length : Int)
                          · rw [if_pos c32] at H
                            have c32b0 : decide ((ji30) < (l0_1.length : Int)) = true := decide_eq_true c32
                            clear c32
                            have H' := Aside0.mk H
                            clear H
                            have p116 : 0 ≤ (x23_2 : Int) := of_decide_eq_true (by first | (with_reducible assumption) | assumption)
                            have q116 : x23_2 < (l0_1.length : Int) := of_decide_eq_true (by first | (with_reducible assumption) | assumption)
                            obtain ⟨ad116, e116, hx116_0, hx116_1⟩ := at_T60 HR0_1.out x23_2 p116 q116
                            cases e116
                            replace hx116_0 := (HB.out.cell (World.block_lt_of_cell? w _ hx116_0)).trans hx116_0
                            replace hx116_1 := (HB.out.cell (World.block_lt_of_cell? w _ hx116_1)).trans hx116_1
                            replace p116 := eq_true p116
                            replace q116 := eq_true q116
                            try go_wp2_with (first | ((with_reducible refine gate_dst (N := 5) rfl ?_); (try (refine gate_guard (by rfl) ?_; dsimp only)); refine bx_ (N := 5) (cs := #[.int .u32 0, .string (⟨#[]⟩ : ByteArray)]) (t := 60) ?_; intro gb117 hg w33 hbox hb; have BK117 := Aside0.mk (hbox); have GW117 := ge_ hg; have GE117 := ge_ hg; have NB115_117 := nl_ BK115 hg; have NB117_115 := ng_ BK115 hg; replace BK115 := kb_ BK115 hb; replace HB := hb_ hb; clear hb hbox hg; have hnb34 := NB117_115.out; have hnc34 := NB115_117.out; obtain ⟨hcz35_0, hcz35_1⟩ := cl2_ BK117; obtain ⟨hfz35_0, hfz35_1⟩ := fz2_ BK117))
                            have n0_ : Aside0 (((w33.setCell ⟨gb117, 0, none⟩ (.int .u32 ((rd_T60 l0_1 x23_2).f0))).setCell ⟨gb117, 1, none⟩ (.string ((rd_T60 l0_1 x23_2).f1))).heap[gb115]? = some (.cells #[.int .u32 a0_0, .slice (some ad116) l0_1.length c0_1, .slice A0_2 l0_2.length c0_2, .bool a0_3, .int .i64 a0_4] 30 (0, 0))) := ⟨bs_⟩
                            have n1_ : Aside0 (((w33.setCell ⟨gb117, 0, none⟩ (.int .u32 ((rd_T60 l0_1 x23_2).f0))).setCell ⟨gb117, 1, none⟩ (.string ((rd_T60 l0_1 x23_2).f1))).heap[gb117]? = some (.cells #[.int .u32 ((rd_T60 l0_1 x23_2).f0), .string ((rd_T60 l0_1 x23_2).f1)] 60 (0, 0))) := ⟨bs_⟩
                            have n2_ : Aside0 (Below w.heap.size w ((w33.setCell ⟨gb117, 0, none⟩ (.int .u32 ((rd_T60 l0_1 x23_2).f0))).setCell ⟨gb117, 1, none⟩ (.string ((rd_T60 l0_1 x23_2).f1)))) := ⟨bel_⟩
                            (try clear BK115)
                            (try clear BK117)
                            (try clear HB)
                            generalize ((w33.setCell ⟨gb117, 0, none⟩ (.int .u32 ((rd_T60 l0_1 x23_2).f0))).setCell ⟨gb117, 1, none⟩ (.string ((rd_T60 l0_1 x23_2).f1))) = w36 at n0_ n1_ n2_ ⊢
                            have BK115 := n0_
                            have BK117 := n1_
                            have HB := n2_
                            clear n0_ n1_ n2_
                            replace BK115 := Aside0.mk (blk_drew BK115.out)
                            replace BK117 := Aside0.mk (blk_drew BK117.out)
                            replace HB := Aside0.mk (below_drew1 HB.out)
                            have p119 : 0 ≤ ((ji30) : Int) := of_decide_eq_true (by first | (with_reducible assumption) | assumption)
                            have q119 : (ji30) < (l0_1.length : Int) := of_decide_eq_true (by first | (with_reducible assumption) | assumption)
                            obtain ⟨ad119, e119, hx119_0, hx119_1⟩ := at_T60 HR0_1.out (ji30) p119 q119
                            have hw119_1 := hx119_1
                            have hw119_0 := hx119_0
                            obtain rfl : ad116 = ad119 := (by injection e119)
                            replace hx119_0 := (HB.out.cell (World.block_lt_of_cell? w _ hx119_0)).trans hx119_0
                            replace hx119_1 := (HB.out.cell (World.block_lt_of_cell? w _ hx119_1)).trans hx119_1
                            replace p119 := eq_true p119
                            replace q119 := eq_true q119
                            refine start_ (n := 29) (S := fun w' => w'.cell? ⟨gb117, 0, none⟩ = some (.int .u32 ((rd_T60 l0_1 x23_2).f0)) ∧ w'.cell? ⟨gb117, 1, none⟩ = some (.string ((rd_T60 l0_1 x23_2).f1)) ∧ w'.cell? ⟨gb115, 0, none⟩ = some (.int .u32 a0_0) ∧ w'.cell? ⟨gb115, 1, none⟩ = some (.slice (some ad116) l0_1.length c0_1) ∧ w'.cell? ⟨gb115, 2, none⟩ = some (.slice A0_2 l0_2.length c0_2) ∧ w'.cell? ⟨gb115, 3, none⟩ = some (.bool a0_3) ∧ w'.cell? ⟨gb115, 4, none⟩ = some (.int .i64 a0_4) ∧ w'.cell? (ad116.add (((ji30)).toNat * 2)) = some (.int .u32 ((rd_T60 l0_1 (ji30)).f0)) ∧ w'.cell? ⟨(ad116.add (((ji30)).toNat * 2)).block, (ad116.add (((ji30)).toNat * 2)).off + 1, none⟩ = some (.string ((rd_T60 l0_1 (ji30)).f1))) (ds := []) #[false, false, false, false, false, false, false, false, false, false, false, false, false, false, false, false, false, false, false, false, false, false, false, false, false, false, false, false, false] (by kernel_rfl) rfl rfl ⟨(blk_cell BK117.out 0).trans rfl, (blk_cell BK117.out 1).trans rfl, (blk_cell BK115.out 0).trans rfl, (blk_cell BK115.out 1).trans rfl, (blk_cell BK115.out 2).trans rfl, (blk_cell BK115.out 3).trans rfl, (blk_cell BK115.out 4).trans rfl, ((HB.out.cell (World.block_lt_of_cell? w _ hw119_0)).trans hw119_0), ((HB.out.cell (World.block_lt_of_cell? w _ hw119_1)).trans hw119_1)⟩ (fun hHeld => ?_); refine with_tabW dev_Check.tab5 dev_Check.bits5 (fun HT_ HW_ => ?_)
                            generalize w36.drew = w37 at BK115 BK117 HB hx119_0 hx119_1 hHeld ⊢
                            refine pu_ 0 28 ?_
                            refine pu_ 1 29 ?_
                            refine pu_ 3 31 ?_
                            refine tk9_ 2 30 ?_
                            refine tk9_ 4 32 ?_
                            refine on_ 5 33 (fun K hK => ?_)
                            refine goes_ Tryd.func25 (by kernel_rfl) rfl #[.agg #[.int .u32 ((rd_T60 l0_1 x23_2).f0), .string ((rd_T60 l0_1 x23_2).f1)], .int .u32 a0_0] (by rfl) rfl rfl (by (try simp only [List.map_toArray, List.map_cons, List.map_nil]); first | done | rfl | (simp only [List.length_drop, List.length_take]; rfl)) ?_
                            with_reducible refine (dev_right.calls ((rd_T60 l0_1 x23_2).f0) ((rd_T60 l0_1 x23_2).f1) a0_0 true _ A14.out).mono ?_
                            rintro e w38 ⟨rfl, hb⟩
                            refine ⟨_, rfl, ?_⟩
                            replace BK115 := kb_ BK115 hb
                            replace BK117 := kb_ BK117 hb
                            replace HB := hb_ hb
                            (try clear hb)
                            (try clear hb2)
                            (try clear hk)
                            (try clear hi)
                            refine hK.out _ _ ⟨(blk_cell BK117.out 0).trans rfl, (blk_cell BK117.out 1).trans rfl, (blk_cell BK115.out 0).trans rfl, (blk_cell BK115.out 1).trans rfl, (blk_cell BK115.out 2).trans rfl, (blk_cell BK115.out 3).trans rfl, (blk_cell BK115.out 4).trans rfl, ((HB.out.cell (World.block_lt_of_cell? w _ hw119_0)).trans hw119_0), ((HB.out.cell (World.block_lt_of_cell? w _ hw119_1)).trans hw119_1)⟩ (fun hHeld => ?_)
                            clear hK K
                            refine nm_ 33 ?_
                            refine pu_ 6 34 ?_
                            refine pu_ 7 35 ?_
                            refine pu_ 8 36 ?_
                            refine tk9_ 9 37 ?_
                            refine pu_ 10 38 ?_
                            refine pu_ 11 39 ?_
                            refine pu_ 12 40 ?_
                            refine pu_ 13 41 ?_
                            refine pu_ 14 42 ?_
                            refine pu_ 15 43 ?_
                            refine pu_ 16 44 ?_
                            refine pu_ 18 46 ?_
                            refine pu_ 19 47 ?_
                            refine pu_ 23 51 ?_
                            refine tk9_ 17 45 ?_
                            refine pu_ 20 48 ?_
                            refine pu_ 21 49 ?_
                            refine tk9_ 22 50 ?_
                            refine tk9_ 24 52 ?_
                            refine pu_ 25 53 ?_
                            refine pu_ 26 54 ?_
                            refine pu_ 27 55 ?_
                            refine pu_ 28 3 ?_
                            refine done_ (done_of HT_.out (by kernel_rfl)) ?_
                            try go_wp2
                            go_roundg k2
                            case measure => have := HJ1.out; have := HK2.out; omega
                            case rel => exact ⟨(decide (((rd_T60 l0_1 (ji30)).f0) < ((rd_T60 l0_1 x23_2).f0))), (wrap64 (x23_2 + 1)), (by first | rfl | (simp; done) | (simp only [← hji30] <;> (first | rfl | simp)) | (simp [*]; done)), (by first | rfl | (simp; done) | (simp [*]; done)), H', ⟨by have := HJ1.out; have := HK2.out; omega⟩, ⟨bk_ BK115⟩, ⟨bel_⟩⟩
                          · rw [if_neg c32] at H
                            exact absurd H (by simp)
                        · rw [if_neg c31] at H
                          exact absurd H (by simp)
                  · replace c15 := Bool.eq_false_iff.mpr c15
                    subst c15
                    have H1 : (dev_Check.l0 k2 false l0_1 (l0_1.length : Int) (wrap64 (x23_2 + 1)) a0_0 l0_1 l0_2 a0_3 a0_4) = some r := by rw [if_neg (show ¬ (false = true) by decide)] at H; exact H
                    clear H
                    have H := H1
                    clear H1
                    have H' := Aside0.mk H
                    clear H
                    have p116 : 0 ≤ (x23_2 : Int) := of_decide_eq_true (by first | (with_reducible assumption) | assumption)
                    have q116 : x23_2 < (l0_1.length : Int) := of_decide_eq_true (by first | (with_reducible assumption) | assumption)
                    obtain ⟨ad116, e116, hx116_0, hx116_1⟩ := at_T60 HR0_1.out x23_2 p116 q116
                    cases e116
                    replace hx116_0 := (HB.out.cell (World.block_lt_of_cell? w _ hx116_0)).trans hx116_0
                    replace hx116_1 := (HB.out.cell (World.block_lt_of_cell? w _ hx116_1)).trans hx116_1
                    replace p116 := eq_true p116
                    replace q116 := eq_true q116
                    try go_wp2_with (first | ((with_reducible refine gate_dst (N := 5) rfl ?_); (try (refine gate_guard (by rfl) ?_; dsimp only)); refine bx_ (N := 5) (cs := #[.int .u32 0, .string (⟨#[]⟩ : ByteArray)]) (t := 60) ?_; intro gb117 hg w39 hbox hb; have BK117 := Aside0.mk (hbox); have GW117 := ge_ hg; have GE117 := ge_ hg; have NB115_117 := nl_ BK115 hg; have NB117_115 := ng_ BK115 hg; replace BK115 := kb_ BK115 hb; replace HB := hb_ hb; clear hb hbox hg; have hnb40 := NB117_115.out; have hnc40 := NB115_117.out; obtain ⟨hcz41_0, hcz41_1⟩ := cl2_ BK117; obtain ⟨hfz41_0, hfz41_1⟩ := fz2_ BK117))
                    have n0_ : Aside0 (((w39.setCell ⟨gb117, 0, none⟩ (.int .u32 ((rd_T60 l0_1 x23_2).f0))).setCell ⟨gb117, 1, none⟩ (.string ((rd_T60 l0_1 x23_2).f1))).heap[gb115]? = some (.cells #[.int .u32 a0_0, .slice (some ad116) l0_1.length c0_1, .slice A0_2 l0_2.length c0_2, .bool a0_3, .int .i64 a0_4] 30 (0, 0))) := ⟨bs_⟩
                    have n1_ : Aside0 (((w39.setCell ⟨gb117, 0, none⟩ (.int .u32 ((rd_T60 l0_1 x23_2).f0))).setCell ⟨gb117, 1, none⟩ (.string ((rd_T60 l0_1 x23_2).f1))).heap[gb117]? = some (.cells #[.int .u32 ((rd_T60 l0_1 x23_2).f0), .string ((rd_T60 l0_1 x23_2).f1)] 60 (0, 0))) := ⟨bs_⟩
                    have n2_ : Aside0 (Below w.heap.size w ((w39.setCell ⟨gb117, 0, none⟩ (.int .u32 ((rd_T60 l0_1 x23_2).f0))).setCell ⟨gb117, 1, none⟩ (.string ((rd_T60 l0_1 x23_2).f1)))) := ⟨bel_⟩
                    (try clear BK115)
                    (try clear BK117)
                    (try clear HB)
                    generalize ((w39.setCell ⟨gb117, 0, none⟩ (.int .u32 ((rd_T60 l0_1 x23_2).f0))).setCell ⟨gb117, 1, none⟩ (.string ((rd_T60 l0_1 x23_2).f1))) = w42 at n0_ n1_ n2_ ⊢
                    have BK115 := n0_
                    have BK117 := n1_
                    have HB := n2_
                    clear n0_ n1_ n2_
                    replace BK115 := Aside0.mk (blk_drew BK115.out)
                    replace BK117 := Aside0.mk (blk_drew BK117.out)
                    replace HB := Aside0.mk (below_drew1 HB.out)
                    refine start_ (n := 29) (S := fun w' => w'.cell? ⟨gb117, 0, none⟩ = some (.int .u32 ((rd_T60 l0_1 x23_2).f0)) ∧ w'.cell? ⟨gb117, 1, none⟩ = some (.string ((rd_T60 l0_1 x23_2).f1)) ∧ w'.cell? ⟨gb115, 0, none⟩ = some (.int .u32 a0_0) ∧ w'.cell? ⟨gb115, 1, none⟩ = some (.slice (some ad116) l0_1.length c0_1) ∧ w'.cell? ⟨gb115, 2, none⟩ = some (.slice A0_2 l0_2.length c0_2) ∧ w'.cell? ⟨gb115, 3, none⟩ = some (.bool a0_3) ∧ w'.cell? ⟨gb115, 4, none⟩ = some (.int .i64 a0_4)) (ds := []) #[false, false, false, false, false, false, false, false, false, false, false, false, false, false, false, false, false, false, false, false, false, false, false, false, false, false, false, false, false] (by kernel_rfl) rfl rfl hc_ (fun hHeld => ?_); refine with_tabW dev_Check.tab5 dev_Check.bits5 (fun HT_ HW_ => ?_)
                    generalize w42.drew = w43 at BK115 BK117 HB hHeld ⊢
                    refine pu_ 0 28 ?_
                    refine pu_ 1 29 ?_
                    refine pu_ 3 31 ?_
                    refine tk7_ 2 30 ?_
                    refine tk7_ 4 32 ?_
                    refine on_ 5 33 (fun K hK => ?_)
                    refine goes_ Tryd.func25 (by kernel_rfl) rfl #[.agg #[.int .u32 ((rd_T60 l0_1 x23_2).f0), .string ((rd_T60 l0_1 x23_2).f1)], .int .u32 a0_0] (by rfl) rfl rfl (by (try simp only [List.map_toArray, List.map_cons, List.map_nil]); first | done | rfl | (simp only [List.length_drop, List.length_take]; rfl)) ?_
                    with_reducible refine (dev_right.calls ((rd_T60 l0_1 x23_2).f0) ((rd_T60 l0_1 x23_2).f1) a0_0 false _ A14.out).mono ?_
                    rintro e w44 ⟨rfl, hb⟩
                    refine ⟨_, rfl, ?_⟩
                    replace BK115 := kb_ BK115 hb
                    replace BK117 := kb_ BK117 hb
                    replace HB := hb_ hb
                    (try clear hb)
                    (try clear hb2)
                    (try clear hk)
                    (try clear hi)
                    refine hK.out _ _ hc_ (fun hHeld => ?_)
                    clear hK K
                    refine nm_ 33 ?_
                    refine pu_ 6 34 ?_
                    refine pu_ 7 35 ?_
                    refine un_ 8 36 ?_
                    refine un_ 9 37 ?_
                    refine un_ 10 38 ?_
                    refine pu_ 11 39 ?_
                    refine pu_ 12 40 ?_
                    refine un_ 13 41 ?_
                    refine un_ 14 42 ?_
                    refine un_ 15 43 ?_
                    refine un_ 16 44 ?_
                    refine un_ 17 45 ?_
                    refine un_ 18 46 ?_
                    refine un_ 19 47 ?_
                    refine un_ 20 48 ?_
                    refine un_ 21 49 ?_
                    refine un_ 22 50 ?_
                    refine un_ 23 51 ?_
                    refine un_ 24 52 ?_
                    refine un_ 25 53 ?_
                    refine un_ 26 54 ?_
                    refine pu_ 27 55 ?_
                    refine pu_ 28 3 ?_
                    refine done_ (done_of HT_.out (by kernel_rfl)) ?_
                    try go_wp2
                    go_roundg k2
                    case measure => have := HJ1.out; have := HK2.out; omega
                    case rel => exact ⟨(false), (wrap64 (x23_2 + 1)), (by first | rfl | (simp; done) | (simp [*]; done)), (by first | rfl | (simp; done) | (simp [*]; done)), H', ⟨by have := HJ1.out; have := HK2.out; omega⟩, ⟨bk_ BK115⟩, ⟨bel_⟩⟩
                · replace c13 := Bool.eq_false_iff.mpr c13
                  subst c13
                  have H1 : (dev_Check.l0 k2 false l0_1 (l0_1.length : Int) (wrap64 (x23_2 + 1)) a0_0 l0_1 l0_2 a0_3 a0_4) = some r := by rw [if_neg (show ¬ (false = true) by decide)] at H; exact H
                  clear H
                  have H := H1
                  clear H1
                  have H' := Aside0.mk H
                  clear H
                  have p116 : 0 ≤ (x23_2 : Int) := of_decide_eq_true (by first | (with_reducible assumption) | assumption)
                  have q116 : x23_2 < (l0_1.length : Int) := of_decide_eq_true (by first | (with_reducible assumption) | assumption)
                  obtain ⟨ad116, e116, hx116_0, hx116_1⟩ := at_T60 HR0_1.out x23_2 p116 q116
                  cases e116
                  replace hx116_0 := (HB.out.cell (World.block_lt_of_cell? w _ hx116_0)).trans hx116_0
                  replace hx116_1 := (HB.out.cell (World.block_lt_of_cell? w _ hx116_1)).trans hx116_1
                  replace p116 := eq_true p116
                  replace q116 := eq_true q116
                  try go_wp2_with (first | ((with_reducible refine gate_dst (N := 5) rfl ?_); (try (refine gate_guard (by rfl) ?_; dsimp only)); refine bx_ (N := 5) (cs := #[.int .u32 0, .string (⟨#[]⟩ : ByteArray)]) (t := 60) ?_; intro gb117 hg w45 hbox hb; have BK117 := Aside0.mk (hbox); have GW117 := ge_ hg; have GE117 := ge_ hg; have NB115_117 := nl_ BK115 hg; have NB117_115 := ng_ BK115 hg; replace BK115 := kb_ BK115 hb; replace HB := hb_ hb; clear hb hbox hg; have hnb46 := NB117_115.out; have hnc46 := NB115_117.out; obtain ⟨hcz47_0, hcz47_1⟩ := cl2_ BK117; obtain ⟨hfz47_0, hfz47_1⟩ := fz2_ BK117))
                  have n0_ : Aside0 (((w45.setCell ⟨gb117, 0, none⟩ (.int .u32 ((rd_T60 l0_1 x23_2).f0))).setCell ⟨gb117, 1, none⟩ (.string ((rd_T60 l0_1 x23_2).f1))).heap[gb115]? = some (.cells #[.int .u32 a0_0, .slice (some ad116) l0_1.length c0_1, .slice A0_2 l0_2.length c0_2, .bool a0_3, .int .i64 a0_4] 30 (0, 0))) := ⟨bs_⟩
                  have n1_ : Aside0 (((w45.setCell ⟨gb117, 0, none⟩ (.int .u32 ((rd_T60 l0_1 x23_2).f0))).setCell ⟨gb117, 1, none⟩ (.string ((rd_T60 l0_1 x23_2).f1))).heap[gb117]? = some (.cells #[.int .u32 ((rd_T60 l0_1 x23_2).f0), .string ((rd_T60 l0_1 x23_2).f1)] 60 (0, 0))) := ⟨bs_⟩
                  have n2_ : Aside0 (Below w.heap.size w ((w45.setCell ⟨gb117, 0, none⟩ (.int .u32 ((rd_T60 l0_1 x23_2).f0))).setCell ⟨gb117, 1, none⟩ (.string ((rd_T60 l0_1 x23_2).f1)))) := ⟨bel_⟩
                  (try clear BK115)
                  (try clear BK117)
                  (try clear HB)
                  generalize ((w45.setCell ⟨gb117, 0, none⟩ (.int .u32 ((rd_T60 l0_1 x23_2).f0))).setCell ⟨gb117, 1, none⟩ (.string ((rd_T60 l0_1 x23_2).f1))) = w48 at n0_ n1_ n2_ ⊢
                  have BK115 := n0_
                  have BK117 := n1_
                  have HB := n2_
                  clear n0_ n1_ n2_
                  replace BK115 := Aside0.mk (blk_drew BK115.out)
                  replace BK117 := Aside0.mk (blk_drew BK117.out)
                  replace HB := Aside0.mk (below_drew1 HB.out)
                  refine start_ (n := 29) (S := fun w' => True) (ds := []) #[false, false, false, false, false, false, false, false, false, false, false, false, false, false, false, false, false, false, false, false, false, false, false, false, false, false, false, false, false] (by kernel_rfl) rfl rfl trivial (fun hHeld => ?_); refine with_tabW dev_Check.tab5 dev_Check.bits5 (fun HT_ HW_ => ?_)
                  generalize w48.drew = w49 at BK115 BK117 HB hHeld ⊢
                  refine pu_ 0 28 ?_
                  refine pu_ 1 29 ?_
                  refine un_ 2 30 ?_
                  refine un_ 3 31 ?_
                  refine un_ 4 32 ?_
                  refine un_ 5 33 ?_
                  refine pu_ 6 34 ?_
                  refine pu_ 7 35 ?_
                  refine un_ 8 36 ?_
                  refine un_ 9 37 ?_
                  refine un_ 10 38 ?_
                  refine pu_ 11 39 ?_
                  refine pu_ 12 40 ?_
                  refine un_ 13 41 ?_
                  refine un_ 14 42 ?_
                  refine un_ 15 43 ?_
                  refine un_ 16 44 ?_
                  refine un_ 17 45 ?_
                  refine un_ 18 46 ?_
                  refine un_ 19 47 ?_
                  refine un_ 20 48 ?_
                  refine un_ 21 49 ?_
                  refine un_ 22 50 ?_
                  refine un_ 23 51 ?_
                  refine un_ 24 52 ?_
                  refine un_ 25 53 ?_
                  refine un_ 26 54 ?_
                  refine pu_ 27 55 ?_
                  refine pu_ 28 3 ?_
                  refine done_ (done_of HT_.out (by kernel_rfl)) ?_
                  try go_wp2
                  go_roundg k2
                  case measure => have := HJ1.out; have := HK2.out; omega
                  case rel => exact ⟨(false), (wrap64 (x23_2 + 1)), (by first | rfl | (simp; done) | (simp [*]; done)), (by first | rfl | (simp; done) | (simp [*]; done)), H', ⟨by have := HJ1.out; have := HK2.out; omega⟩, ⟨bk_ BK115⟩, ⟨bel_⟩⟩
              · rw [if_neg c12] at H
                exact absurd H (by simp)
            · rw [if_neg c11] at H
              exact absurd H (by simp)
          · rw [if_neg c10] at H
            have c10b0 : decide (x23_2 < (l0_1.length : Int)) = false := decide_eq_false c10
            clear c10
            by_cases c50 : x3_2 = true
            · subst c50
              have H1 : ((slices_ContainsFunc_api_Block_api_Block.f l0_2 a0_0 l0_1 l0_2 a0_3 a0_4).bind fun t120 => (if t120 = true then (some 7) else (some 0))) = some r := by rw [if_pos rfl] at H; exact H
              clear H
              have H := H1
              clear H1
              replace H := Option.bind_eq_some_iff.mp H
              obtain ⟨t120, A510, H⟩ := H
              replace H : (if t120 = true then (some 7) else (some 0)) = some r := H
              have A51 := Aside0.mk A510
              clear A510
              by_cases c52 : t120 = true
              · subst c52
                have H1 : (some 7) = some r := by rw [if_pos rfl] at H; exact H
                clear H
                have H := H1
                clear H1
                obtain rfl := Option.some.inj H
                obtain ⟨hcz53_0, hcz53_1, hcz53_2, hcz53_3, hcz53_4⟩ := cl5_ BK115
                obtain ⟨hfz53_0, hfz53_1, hfz53_2, hfz53_3, hfz53_4⟩ := fz5_ BK115
                go_wp2_with (first | (go_at_call 26; (with_reducible refine (slices_ContainsFunc_api_Block_api_Block.calls _ _ l0_2 gb115 a0_0 l0_1 l0_2 a0_3 a0_4 true _ ?side1 ?side2 ?side3 A51.out).mono ?_); (case side1 => exact ⟨_, _, _, _, (bk_ BK115)⟩); (case side2 => exact cb_ HR0_2); (case side3 => exact HC0_2.out); rintro e w54 ⟨rfl, hb⟩; replace BK115 := kb_ BK115 hb; replace HB := hb_ hb; (try clear hb); (try clear hb2); (try clear hk); (try clear hi)))
                go_ret
                exact ⟨by first | rfl | (simp [errW_none, errW_some] <;> rfl) | (simp [*, errW_none, errW_some] <;> rfl), bel_⟩
              · replace c52 := Bool.eq_false_iff.mpr c52
                subst c52
                have H1 : (some 0) = some r := by rw [if_neg (show ¬ (false = true) by decide)] at H; exact H
                clear H
                have H := H1
                clear H1
                obtain rfl := Option.some.inj H
                obtain ⟨hcz55_0, hcz55_1, hcz55_2, hcz55_3, hcz55_4⟩ := cl5_ BK115
                obtain ⟨hfz55_0, hfz55_1, hfz55_2, hfz55_3, hfz55_4⟩ := fz5_ BK115
                go_wp2_with (first | (go_at_call 26; (with_reducible refine (slices_ContainsFunc_api_Block_api_Block.calls _ _ l0_2 gb115 a0_0 l0_1 l0_2 a0_3 a0_4 false _ ?side1 ?side2 ?side3 A51.out).mono ?_); (case side1 => exact ⟨_, _, _, _, (bk_ BK115)⟩); (case side2 => exact cb_ HR0_2); (case side3 => exact HC0_2.out); rintro e w56 ⟨rfl, hb⟩; replace BK115 := kb_ BK115 hb; replace HB := hb_ hb; (try clear hb); (try clear hb2); (try clear hk); (try clear hi)))
                go_ret
                exact ⟨by first | rfl | (simp [errW_none, errW_some] <;> rfl) | (simp [*, errW_none, errW_some] <;> rfl), bel_⟩
            · replace c50 := Bool.eq_false_iff.mpr c50
              subst c50
              have H1 : (some 7) = some r := by rw [if_neg (show ¬ (false = true) by decide)] at H; exact H
              clear H
              have H := H1
              clear H1
              obtain rfl := Option.some.inj H
              go_wp2
              go_ret
              exact ⟨by first | rfl | (simp [errW_none, errW_some] <;> rfl) | (simp [*, errW_none, errW_some] <;> rfl), bel_⟩

end Go.Proofs.YthbljhmjppjcjaaDoor.Z
end

section
/- A device at work, told whole: its block, its two rows; how it is opened, how what it does turns it. -/
namespace Go.Proofs.YthbljhmjppjcjaaDoor.Z
open Go.RowKit Go.Proofs.YthbljhmjppjcjaaDoorW.PrintWords Go.Proofs.YthbljhmjppjcjaaDoorW.PrintLast Go.Proofs.YthbljhmjppjcjaaDoorW.PrintMore
set_option linter.unusedVariables false
set_option linter.unusedSimpArgs false
def Drv (w0 w : World) (g : Nat) (s : Int) (vB vW : Value) (bl wl : List Blk) (d : Bool) (f n : Int) : Prop :=
  w.heap[g]? = some (drv s vB vW d f n) ∧ w0.heap.size ≤ g ∧ Own w w0.heap.size (fun k => some k ≠ vW.ownBlock) vB bl ∧ Own w w0.heap.size (fun k => some k ≠ vB.ownBlock) vW wl ∧ Below w0.heap.size w0 w
theorem Drv.below {w0 w w' : World} {g : Nat} {s : Int} {vB vW : Value} {bl wl : List Blk} {d : Bool} {f n : Int} (h : Drv w0 w g s vB vW bl wl d f n) (hb : Below w.heap.size w w') : Drv w0 w' g s vB vW bl wl d f n :=
  ⟨blk_below h.1 hb, h.2.1, Kd.R_below h.2.2.1 hb, Kd.R_below h.2.2.2.1 hb, below_step h.2.2.2.2 hb⟩
theorem Drv.step {w0 w w' : World} {g : Nat} {s : Int} {vB vW : Value} {bl wl : List Blk} {d d' : Bool} {f n f' n' : Int} (h : Drv w0 w g s vB vW bl wl d f n) (hs : Step g w w' (drv s vB vW d' f' n')) : Drv w0 w' g s vB vW bl wl d' f' n' :=
  ⟨hs.1, h.2.1, Kd.R_mono (Kd.R_keep (Kd.R_types h.2.2.1 h.1 (by decide)) hs.2.1 (fun _ hk => hk.2)) (fun _ hk => hk.1), Kd.R_mono (Kd.R_keep (Kd.R_types h.2.2.2.1 h.1 (by decide)) hs.2.1 (fun _ hk => hk.2)) (fun _ hk => hk.1), h.2.2.2.2.trans (hs.2.2 _ h.2.1)⟩
theorem Drv.put {w0 w w' : World} {g : Nat} {s : Int} {vB vW v : Value} {bl wl r : List Blk} {d : Bool} {f n : Int} (h : Drv w0 w g s vB vW bl wl d f n)
    (hb : w'.heap[g]? = some (drv s v vW d f n)) (hO : Own w' w0.heap.size (fun k => some k = vB.ownBlock ∨ w.heap.size ≤ k) v r) (hB : Below w0.heap.size w0 w') (hK : Kept w w' (fun k => k = g ∨ some k = vB.ownBlock)) : Drv w0 w' g s v vW r wl d f n := by
  obtain ⟨h1, h2, h3, h4, h5⟩ := h
  have hlt : ∀ k, some k = vW.ownBlock → k < w.heap.size := fun k hk => ((Kd.R_bound h4).1 k hk.symm).2.2.1
  have hW : Own w' w0.heap.size (fun k => some k = vW.ownBlock) vW wl := by
    refine Kd.R_kept (Kd.R_tight k60_E h4) hK (fun k hk hq => ?_)
    rcases hq with rfl | hq
    · exact own_ne h4 h1 (by decide) hk
    · exact h4.1 k hk.symm hq
  refine ⟨hb, h2, Kd.R_mono hO (fun k hk e => ?_), Kd.R_reok k60_E hW (fun k hk e => ?_), hB⟩
  · rcases hk with hk | hk
    · exact h3.1 k hk.symm e
    · have := hlt k e; omega
  · rcases hO.1 k e.symm with hq | hq
    · exact h4.1 k hk hq
    · have := hlt k hk.symm; omega
set_option maxRecDepth 100000 in
set_option maxHeartbeats 1600000 in
theorem open_calls (s : Int) (A1 : Option Addr) (c1 : Nat) (l1 : List Blk) (A2 : Option Addr) (c2 : Nat) (l2 : List Blk) (d : Bool) (f : Int) (r1 : Int) (r2 r3 : List Blk) (r4 : Bool) (r5 : Int) (w0 w : World) (hB : Below w0.heap.size w0 w)
    (hr1 : Kd.C k60 w A1 l1.length l1) (hc1 : l1.length ≤ c1) (hr2 : Kd.C k60 w A2 l2.length l2) (hc2 : l2.length ≤ c2) (h : dev_Own.f s l1 l2 d f = some (r1, r2, r3, r4, r5)) :
    Calls Tryd.prog 15 #[.agg #[.int .u32 s, .slice A1 l1.length c1, .slice A2 l2.length c2, .bool d, .int .i64 f]] w fun e w' => ∃ g a1 b1 a2 b2, e = .returned (.pointer (some ⟨g, 0, none⟩)) ∧ w.heap.size ≤ g ∧ Below w.heap.size w w' ∧ Drv w0 w' g r1 (.slice a1 r2.length b1) (.slice a2 r3.length b2) r2 r3 r4 r5 0 := by
  have HB := Aside0.mk hB
  have R1 := Aside0.mk hr1
  have R2 := Aside0.mk hr2
  have L1 := Aside0.mk hc1
  have L2 := Aside0.mk hc2
  have H := Aside0.mk h
  clear hB hr1 hr2 hc1 hc2 h
  go_enter Tryd.func15, Tryd.ntmps15
  go_wp2_with (first
    | ((with_reducible refine gate_dst (N := 1) rfl ?_); refine box_event ?hg (N := 1) ?hd (cs := #[.int .u32 s, .slice A1 l1.length c1, .slice A2 l2.length c2, .bool d, .int .i64 f]) (t := 30) ?hr ?_; (case hd => rfl); (case hg => rfl); (case hr => first | (go_simp; done) | (go_simp; rfl)); intro gx hgx w1 hx hbx; have K1 := Aside0.mk hbx; have z0 : w1.cell? ⟨gx, 0, none⟩ = some (.int .u32 s) := (blk_cell hx 0).trans rfl; have z1 : w1.cell? ⟨gx, 1, none⟩ = some (.slice A1 l1.length c1) := (blk_cell hx 1).trans rfl; have z2 : w1.cell? ⟨gx, 2, none⟩ = some (.slice A2 l2.length c2) := (blk_cell hx 2).trans rfl; have z3 : w1.cell? ⟨gx, 3, none⟩ = some (.bool d) := (blk_cell hx 3).trans rfl; have z4 : w1.cell? ⟨gx, 4, none⟩ = some (.int .i64 f) := (blk_cell hx 4).trans rfl; clear hx hbx hgx)
    | (go_at_call 28; refine (dev_Own.calls s A1 c1 l1 A2 c2 l2 d f r1 r2 r3 r4 r5 _ (Kd.C_below R1.out K1.out) L1.out (Kd.C_below R2.out K1.out) L2.out H.out).mono ?_; rintro e w2 ⟨v1, v2, rfl, hO1, hO2, hb2⟩; obtain ⟨a1, b1, rfl⟩ := Kd.R_slice hO1; obtain ⟨a2, b2, rfl⟩ := Kd.R_slice hO2; have O1 := Aside0.mk hO1; have O2 := Aside0.mk hO2; have B2 := Aside0.mk hb2; clear hO1 hO2 hb2 z0 z1 z2 z3 z4)
    | ((with_reducible refine gate_dst (N := 6) rfl ?_); refine box_event ?hg (N := 6) ?hd (cs := #[.int .u32 r1, .slice a1 r2.length b1, .slice a2 r3.length b2, .bool r4, .int .i64 r5, .int .u64 0]) (t := 57) ?hr ?_; (case hd => rfl); (case hg => rfl); (case hr => first | (go_simp; done) | (go_simp; rfl)); intro g hg w3 hd hb3; have G3 := Aside0.mk hd; have B3 := Aside0.mk hb3; have N3 := Aside0.mk hg; clear hd hb3 hg))
  go_ret
  have h1 : w0.heap.size ≤ w1.heap.size := Nat.le_trans HB.out.size K1.out.size
  exact ⟨g, a1, b1, a2, b2, rfl, by rw [N3.out]; exact Nat.le_trans K1.out.size B2.out.size, below_step (below_step K1.out B2.out) B3.out, G3.out, by rw [N3.out]; exact Nat.le_trans h1 B2.out.size,
    Kd.R_below (Kd.R_lower O1.out h1) B3.out, Kd.R_below (Kd.R_lower O2.out h1) B3.out, below_step (below_step (below_step HB.out K1.out) B2.out) B3.out⟩
end Go.Proofs.YthbljhmjppjcjaaDoor.Z
end

section
/- slices.Backward over blocks: the library's iterator, for every loop body that keeps what lay. -/
namespace Go.Proofs.YthbljhmjppjcjaaDoor.Z
open Go.RowKit Go.Shelf Go.Proofs.YthbljhmjppjcjaaDoorW.PrintWords Go.Proofs.YthbljhmjppjcjaaDoorW.PrintLast Go.Proofs.YthbljhmjppjcjaaDoorW.PrintMore
set_option linter.unusedVariables false
set_option linter.unusedSimpArgs false
attribute [local go_sem] Oper.semAt_some
def uptoB {α : Type} (f : Nat → α) (k : Nat) : List α := (List.range k).map f
theorem uptoB_succ {α : Type} (f : Nat → α) (k : Nat) : uptoB f (k + 1) = uptoB f k ++ [f k] := by simp [uptoB, List.range_succ]
theorem uptoB_length {α : Type} (f : Nat → α) (k : Nat) : (uptoB f k).length = k := by simp [uptoB]
/-- What comes as the j-th: the one j ahead of the last. -/
def backAt (wl : List Blk) (j : Nat) : Int × Blk := ((wl.length : Int) - 1 - (j : Int), rd_T60 wl ((wl.length : Int) - 1 - (j : Int)))
set_option maxRecDepth 100000 in
set_option maxHeartbeats 2000000 in
theorem back1_in (F : Fence) (n : Nat) (hF : F.fn 52) (hro : F.round = none) (hn : 1 ≤ n) (l Bs n₀ : Nat) (A : Option Addr) (cap : Nat) (wl : List Blk) (w : World) (hC : ∀ wr, Below n₀ w wr → Kd.C k60 wr A wl.length wl) (hlen : (wl.length : Int) ≤ 9223372036854775807) (hbs : Bs < n₀)
    (J Jx : List (Int × Blk) → World → Prop)
    (hY : ∀ pre x W, J pre W → pre.length < wl.length → YieldAt F (n - 1) Tryd.prog l #[.int .i64 x.1, .agg #[.int .u32 x.2.f0, .string x.2.f1]] W fun e W' =>
      (e = .returned (.bool true) ∧ J (pre ++ [x]) W' ∧ Below n₀ W W') ∨ (e = .returned (.bool false) ∧ Jx (pre ++ [x]) W'))
    (W : World) (hW : Below n₀ w W) (hBs0 : w.cell? ⟨Bs, 0, none⟩ = some (.slice A wl.length cap)) (h0 : J [] W) :
    CallsIn F n Tryd.prog 52 #[.func (.yield l) #[] #[], .pointer (some ⟨Bs, 0, none⟩)] W fun e W' => (∃ v, e = .returned v) ∧
      ((∃ ys, ys = uptoB (backAt wl) wl.length ∧ J ys W') ∨ (∃ pre, (∃ k, k ≤ wl.length ∧ pre = uptoB (backAt wl) k) ∧ Jx pre W')) := by
  refine callsIn_of_wp Tryd.func52 rfl hF ?_ hro
  simp only [Tryd.ntmps52, List.size_toArray, List.length_cons, List.length_nil, Nat.reduceAdd, Nat.reduceSub, Array.replicate_succ, Array.replicate_zero, List.push_toArray, List.append_toArray, List.nil_append, List.cons_append]
  have hw0 : IntKind.i64.wrap ((wl.length : Int) - 1) = (wl.length : Int) - 1 := by rw [IntKind.wrap_i64]; omega
  have hBs : W.cell? ⟨Bs, 0, none⟩ = some (.slice A wl.length cap) := (hW.cell (p := ⟨Bs, 0, none⟩) hbs).trans hBs0
  gi_wp2
  gi_loopw [3] (fun i wr => ∃ (k : Nat) (z : Int), k ≤ wl.length ∧ i = .int .i64 z ∧ z = (wl.length : Int) - 1 - k ∧ J (uptoB (backAt wl) k) wr ∧ Below n₀ w wr)
    (fun i _ => (intOf i + 1).toNat)
  case atStart => exact ⟨0, _, Nat.zero_le _, rfl, by omega, h0, hW⟩
  case round =>
    obtain ⟨k, z, hk, rfl, hz, hJs, hnx⟩ := hrel
    have hcB : wr.cell? ⟨Bs, 0, none⟩ = some (.slice A wl.length cap) := (hnx.cell (p := ⟨Bs, 0, none⟩) hbs).trans hBs0
    by_cases hlt : k < wl.length
    · obtain ⟨fn, tmps, assign, body, hy, hR⟩ := hY _ (backAt wl k) wr hJs (by rw [uptoB_length]; exact hlt)
      unfold backAt at hy
      rw [← hz] at hy
      obtain ⟨m, rfl⟩ : ∃ m : Nat, z = (m : Int) := ⟨z.toNat, by omega⟩
      have hm0 : (0 : Int) ≤ (m : Int) := by omega
      have hm1 : (m : Int) < (wl.length : Int) := by omega
      obtain ⟨ad, hA, c0, c1⟩ := at_T60 (hC wr hnx) (m : Int) hm0 hm1
      subst hA
      rw [Int.toNat_natCast] at c0 c1
      have hge : decide ((0 : Int) ≤ (m : Int)) = true := decide_eq_true hm0
      have hw1 : IntKind.i64.wrap ((m : Int) - 1) = (m : Int) - 1 := by rw [IntKind.wrap_i64]; omega
      dsimp only at hy
      have Hz := Aside0.mk hz
      have Hlt := Aside0.mk hlt
      have Hk := Aside0.mk hk
      clear hz hlt hk
      gi_wp2
      refine hR.mono ?_
      rintro e W3 (⟨rfl, hJ3, hk3⟩ | ⟨rfl, hJx3⟩)
      · gi_wp2
        go_roundw
        case rel => exact ⟨k + 1, (m : Int) - 1, by have := Hlt.out; omega, rfl, by have := Hz.out; omega, by rw [uptoB_succ]; exact hJ3, hnx.trans hk3⟩
        case measure => simp [intOf]
      · gi_wp2
        refine bodyPost_ret (results_none rfl _ _ _) rfl ?_
        exact ⟨⟨_, rfl⟩, .inr ⟨_, ⟨k + 1, by have := Hlt.out; omega, (uptoB_succ _ _).symm⟩, hJx3⟩⟩
    · obtain rfl : k = wl.length := by omega
      have hge : decide ((0 : Int) ≤ z) = false := decide_eq_false (by omega)
      have hneg : z < 0 := by omega
      gi_wp2
      go_end0
      exact ⟨⟨_, rfl⟩, .inl ⟨_, rfl, hJs⟩⟩
theorem uptoB_take (wl : List Blk) : uptoB (backAt wl) wl.length = uptoB (backAt wl) wl.length := rfl
theorem back_stops (F : Fence) (n : Nat) (hF : F.fn 52) (hro : F.round = none) (hn : 1 ≤ n) (Bs : Nat) (A : Option Addr) (cap : Nat) (wl : List Blk) (w : World) (hC : Kd.C k60 w A wl.length wl) (hlen : (wl.length : Int) ≤ 9223372036854775807)
    (hBs : w.cell? ⟨Bs, 0, none⟩ = some (.slice A wl.length cap)) :
    SeqStopsK F n Tryd.prog 52 #[.pointer (some ⟨Bs, 0, none⟩)] (fun x : Int × Blk => #[Value.int .i64 x.1, Value.agg #[.int .u32 x.2.f0, .string x.2.f1]]) (Below w.heap.size) (fun ys => ys = uptoB (backAt wl) wl.length) (fun pre => ∃ k, k ≤ wl.length ∧ pre = uptoB (backAt wl) k) wl.length w := fun l J Jx W hW _ _ hY h0 =>
  have hlt : Bs < w.heap.size := World.block_lt_of_cell? w ⟨Bs, 0, none⟩ hBs
  back1_in F n hF hro hn l Bs w.heap.size A cap wl w (fun wr h => Kd.C_below hC h) hlen hlt J Jx hY W hW hBs h0
end Go.Proofs.YthbljhmjppjcjaaDoor.Z
end

section
/- (*drive).read: the reads are counted; the last write that waits, or what the medium has. -/
namespace Go.Proofs.YthbljhmjppjcjaaDoor.Z
open Go.RowKit Go.Shelf Go.Proofs.YthbljhmjppjcjaaDoorW.PrintWords Go.Proofs.YthbljhmjppjcjaaDoorW.PrintLast Go.Proofs.YthbljhmjppjcjaaDoorW.PrintMore
set_option linter.unusedVariables false
set_option linter.unusedSimpArgs false
set_option maxRecDepth 100000 in
theorem add64_calls (a : Addr) (n : Int) (w : World) (hc : w.cell? a = some (.int .u64 n)) (hz : w.frozen? a = false) :
    Calls Tryd.prog 51 #[.pointer (some a), .int .u64 1] w fun e w' => (∃ v, e = .returned v) ∧ w' = w.setCell a (.int .u64 (IntKind.u64.wrap (n + 1))) := by
  have hl := run_call_add (P := Tryd.prog) Tryd.func60 (by kernel_rfl) (by kernel_rfl) (by kernel_rfl) .u64 (by kernel_rfl) (y := 1) (s := IntKind.u64.wrap (n + 1)) hc hz (by simp [Op.intArith])
  go_enter Tryd.func51, Tryd.ntmps51
  go_wp2
  go_ret
  exact ⟨⟨_, rfl⟩, rfl⟩
set_option maxRecDepth 100000 in
theorem meter_calls (g : Nat) (s : Int) (vB vW : Value) (d : Bool) (f n : Int) (w : World) (hb : w.heap[g]? = some (drv s vB vW d f n)) :
    Calls Tryd.prog 33 #[.pointer (some ⟨g, 5, none⟩), .int .i64 1] w fun e w' => ∃ n', (∃ v, e = .returned v) ∧ Step g w w' (drv s vB vW d f n') := by
  have q5 : w.cell? ⟨g, 5, none⟩ = some (.int .u64 n) := (blk_cell hb 5).trans rfl
  have f5 : w.frozen? ⟨g, 5, none⟩ = false := blk_frozen hb 5
  have HS : Aside0 (Step g w (w.setCell ⟨g, 5, none⟩ (.int .u64 (IntKind.u64.wrap (n + 1)))) (drv s vB vW d f (IntKind.u64.wrap (n + 1)))) := ⟨(Step.refl hb).set 5 _ rfl⟩
  clear hb
  go_enter Tryd.func33, Tryd.ntmps33
  go_wp2_with (go_at_call 51; refine (add64_calls ⟨g, 5, none⟩ n _ q5 f5).mono ?_; rintro e w' ⟨⟨v, rfl⟩, rfl⟩)
  go_ret
  exact ⟨_, ⟨_, rfl⟩, HS.out⟩
set_option maxRecDepth 100000 in
theorem backward_calls (A : Option Addr) (n c : Nat) (w : World) :
    Calls Tryd.prog 34 #[.slice A n c] w fun e w' => e = .returned (.func (.func 52) #[] #[.pointer (some ⟨w.heap.size, 0, none⟩)]) ∧ w' = w.alloc (.cells #[.slice A n c] 28 (0, 0)) := by
  have hmf_ : ∀ (fn : Fn) (first cap : Array Value) (w : World), (Instr.makeFunc fn first cap).run Tryd.prog w = .ok (.func fn first cap) w := fun _ _ _ _ => rfl
  go_enter Tryd.func34, Tryd.ntmps34
  go_wp2
  go_ret
  exact ⟨rfl, rfl⟩
set_option maxRecDepth 100000 in
theorem placeC_calls (k : Nat) (g : Nat) (s : Int) (A : Option Addr) (c : Nat) (vW : Value) (d : Bool) (f n : Int) (bl : List Blk) (num r1 : Int) (r2 : Bool) (w : World) (hb : w.heap[g]? = some (drv s (.slice A bl.length c) vW d f n)) (hC : Kd.C k60 w A bl.length bl) (hc : bl.length ≤ c)
    (h : slices_BinarySearchFunc_api_Block_api_Block_uint32_fn47.f k bl num = some (r1, r2)) :
    Calls Tryd.prog 30 #[.pointer (some ⟨g, 0, none⟩), .int .u32 num] w fun e w' => e = .returned (.tuple #[.int .i64 r1, .bool r2]) ∧ Below w.heap.size w w' := by
  have q1 : w.cell? ⟨g, 1, none⟩ = some (.slice A bl.length c) := (blk_cell hb 1).trans rfl
  have HC := Aside0.mk hC
  have H := Aside0.mk h
  have HL := Aside0.mk hc
  clear hC h hc hb
  go_enter Tryd.func30, Tryd.ntmps30
  go_wp2_with (go_at_call 46; refine (slices_BinarySearchFunc_api_Block_api_Block_uint32_fn47.calls k A c bl num r1 r2 _ HC.out HL.out H.out).mono ?_; rintro e w1 ⟨rfl, h1⟩; have HB1 := Aside0.mk h1; clear h1)
  go_ret2
  exact ⟨rfl, HB1.out⟩
def lastOf (wl : List Blk) (num : Int) : Option ByteArray := ((uptoB (backAt wl) wl.length).find? (fun p => p.2.f0 == num)).map (fun p => p.2.f1)
def readF (k : Nat) (bl wl : List Blk) (num : Int) : Option ByteArray :=
  match lastOf wl num with
  | some s => some s
  | none => (slices_BinarySearchFunc_api_Block_api_Block_uint32_fn47.f k bl num).bind fun p => if p.2 = true then (if 0 ≤ p.1 ∧ p.1 < (bl.length : Int) then some (rd_T60 bl p.1).f1 else none) else some ⟨#[]⟩
theorem readF_mono : ∀ a0 a1 a2 k, LeO (readF k a0 a1 a2) (readF (k + 1) a0 a1 a2) := by
  intro a0 a1 a2 k
  unfold readF
  split
  · exact LeO.refl _
  · exact LeO.bind (slices_BinarySearchFunc_api_Block_api_Block_uint32_fn47.mono _ _ _) (fun _ => LeO.refl _)
def Has (W : World) (B : Nat) (t : TypeId) (cs : Array Value) : Prop := W.heap[B]? = some (.cells cs t (0, 0))
theorem Has.lt {W : World} {B : Nat} {t : TypeId} {cs : Array Value} (h : Has W B t cs) : B < W.heap.size := (Array.getElem?_eq_some_iff.1 h).1
theorem Has.kept {W W' : World} {row : Option Nat} {B : Nat} {t : TypeId} {cs : Array Value} (h : Has W B t cs) (hg : W.grownBy W' row) (hne : some B ≠ row) : Has W' B t cs := (hg.block B h.lt hne).trans h
theorem Has.alloc {W : World} {B : Nat} {t : TypeId} {cs : Array Value} (h : Has W B t cs) (o : Obj) : Has (W.alloc o) B t cs := blk_alloc h o
theorem has_own {β : Type} (B : Nat) (t : TypeId) (cs : Array Value) : Go.Own (fun (_ : β) W => Has W B t cs) := fun s X Y row hs hg hrow =>
  hs.kept hg (fun e' => by obtain ⟨o, ho, hc⟩ := hrow B e'.symm; rw [show X.heap[B]? = _ from hs] at ho; cases ho; cases hc)
theorem Has.set {W : World} {B : Nat} {t : TypeId} {cs : Array Value} (h : Has W B t cs) (j : Nat) (u : Value) : Has (W.setCell ⟨B, j, none⟩ u) B t (cs.setIfInBounds j u) := blk_set h j u
theorem Has.far {W : World} {B : Nat} {t : TypeId} {cs : Array Value} (h : Has W B t cs) {B' : Nat} (hne : B ≠ B') (j : Nat) (u : Value) : Has (W.setCell ⟨B', j, none⟩ u) B t cs := (Below.heap_setCell W ⟨B', j, none⟩ u B hne).trans h
theorem uptoB_split {α : Type} (f : Nat → α) {q n : Nat} (h : q ≤ n) : ∃ rest, uptoB f n = uptoB f q ++ rest := by
  obtain ⟨m, rfl⟩ : ∃ m, n = q + m := ⟨n - q, by omega⟩
  clear h
  induction m with
  | zero => exact ⟨[], by simp⟩
  | succ m ih =>
    obtain ⟨rest, hr⟩ := ih
    exact ⟨rest ++ [f (q + m)], by rw [← Nat.add_assoc, uptoB_succ, hr, List.append_assoc]⟩
attribute [local go_sem] Oper.semAt_some
set_option maxRecDepth 100000 in
set_option maxHeartbeats 4000000 in
theorem read_in (F : Fence) (hF : F = Fence.wide) (n : Nat) (hn : n = 6) (k : Nat) (g : Nat) (s : Int) (A1 : Option Addr) (c1 : Nat) (bl : List Blk) (A2 : Option Addr) (c2 : Nat) (wl : List Blk) (d : Bool) (f m : Int) (num : Int) (r : ByteArray) (w0 w : World)
    (hB : Below w0.heap.size w0 w) (hg : w0.heap.size ≤ g) (hb : w.heap[g]? = some (drv s (.slice A1 bl.length c1) (.slice A2 wl.length c2) d f m)) (hC1 : Kd.C k60 w0 A1 bl.length bl) (hc1 : bl.length ≤ c1) (hC2 : Kd.C k60 w0 A2 wl.length wl) (hc2 : wl.length ≤ c2)
    (h : readF k bl wl num = some r) :
    CallsIn F n Tryd.prog 19 #[.pointer (some ⟨g, 0, none⟩), .int .u32 num] w fun e w' => e = .returned (.string r) ∧ Below w0.heap.size w0 w' := by
  subst hF
  have hro : (Fence.wide).round = none := rfl
  have h1 : 1 ≤ n := by omega
  have hlen : (wl.length : Int) ≤ 9223372036854775807 := by have := Kd.C_max hC2; omega
  refine callsIn_of_wp_marks Tryd.func19 rfl trivial ?_ hro
  simp only [Tryd.ntmps19, List.size_toArray, List.length_cons, List.length_nil, Nat.reduceAdd, Nat.reduceSub, Array.replicate_succ, Array.replicate_zero, List.push_toArray, List.append_toArray, List.nil_append, List.cons_append]
  have HBg := Aside0.mk hb
  clear hb
  gi_wp2_with (first
    | (refine ⟨trivial, ?_⟩; gi_at_call 33; refine (callsIn_wide.2 (meter_calls g s _ _ d f m _ (blk_alloc (blk_alloc HBg.out _) _))).mono ?_; rintro e w1 ⟨m', ⟨v, rfl⟩, h1⟩; have S1 := Aside0.mk h1; have q2 : w1.cell? ⟨g, 2, none⟩ = some (.slice A2 wl.length c2) := (blk_cell h1.1 2).trans rfl; clear h1)
    | (refine ⟨trivial, ?_⟩; gi_at_call 34; refine (callsIn_wide.2 (backward_calls A2 wl.length c2 _)).mono ?_; rintro e w2 ⟨rfl, rfl⟩))
  have hgw : g < w.heap.size := blk_lt HBg.out
  have hk : ∀ i, i < w.heap.size + 1 + 1 → i ≠ g → w1.heap[i]? = ((w.alloc (.cells #[.int .u32 num] 27)).alloc (.cells #[.string { data := #[] }] 9)).heap[i]? := fun i hi hne => S1.out.2.1.2 i (by simp; omega) hne (by simp)
  have hN1 : Has w1 w.heap.size 27 #[.int .u32 num] := (hk _ (by omega) (by omega)).trans (blk_alloc (blk_new w _) _)
  have hR1 : Has w1 (w.heap.size + 1) 9 #[.string ⟨#[]⟩] := (hk _ (by omega) (by omega)).trans (by have := blk_new (w.alloc (.cells #[.int .u32 num] 27)) (.cells #[.string { data := #[] }] 9); rwa [World.size_alloc] at this)
  have hD1 : Has w1 g 57 #[.int .u32 s, .slice A1 bl.length c1, .slice A2 wl.length c2, .bool d, .int .i64 f, .int .u64 m'] := S1.out.1
  have hB1 : Below w0.heap.size w0 w1 := (((hB.alloc hB.size _).alloc (by simp; have := hB.size; omega) _)).trans (S1.out.2.2 _ hg)
  have hsz1 : w.heap.size + 1 + 1 ≤ w1.heap.size := by have := S1.out.2.1.1; simpa using this
  have bX := blk_new w1 (.cells #[.slice A2 wl.length c2] 28)
  have hsz0 : (w1.alloc (.cells #[.slice A2 wl.length c2] 28)).heap.size = w1.heap.size + 1 := by simp
  have hN0 := hN1.alloc (.cells #[.slice A2 wl.length c2] 28)
  have hR0 := hR1.alloc (.cells #[.slice A2 wl.length c2] 28)
  have hD0 := hD1.alloc (.cells #[.slice A2 wl.length c2] 28)
  have hB0 := hB1.alloc hB1.size (.cells #[.slice A2 wl.length c2] 28)
  clear hk q2 S1
  obtain ⟨W0, hW0⟩ : ∃ W0, w1.alloc (.cells #[.slice A2 wl.length c2] 28) = W0 := ⟨_, rfl⟩
  rw [hW0] at bX hsz0 hN0 hR0 hD0 hB0 ⊢
  clear hW0
  have hw0 : w0.heap.size ≤ w.heap.size := hB.size
  refine wpIn_rangeFunc_ownH hro h1 (gf := 52) (lb := #[.pointer (some ⟨w1.heap.size, 0, none⟩)]) rfl trivial (enters_of Tryd.func52 (by kernel_rfl) rfl)
    (back_stops Fence.wide (n - 1) trivial hro (by omega) w1.heap.size A2 c2 wl W0 (Kd.C_below hC2 hB0) hlen ((blk_cell bX 0).trans rfl)) belowK_t (belowK_b (Nat.le_refl _)) (Below.refl _ _) (fun _ => rfl)
    (fun pre W => (((Has W w.heap.size 27 #[.int .u32 num] ∧ Has W (w.heap.size + 1) 9 #[.string ⟨#[]⟩]) ∧ Has W g 57 #[.int .u32 s, .slice A1 bl.length c1, .slice A2 wl.length c2, .bool d, .int .i64 f, .int .u64 m']) ∧ (∀ p ∈ pre, p.2.f0 ≠ num)) ∧ Below W0.heap.size W0 W)
    (fun c pre W => (c = .ret ∧ ∃ ini last, pre = ini ++ [last] ∧ (∀ p ∈ ini, p.2.f0 ≠ num) ∧ last.2.f0 = num ∧ Has W (w.heap.size + 1) 9 #[.string last.2.f1]) ∧ Below w0.heap.size w0 W)
    (OwnFrom.and (OwnFrom.and (OwnFrom.and (OwnFrom.and (Own.from (has_own _ _ _) _) (Own.from (has_own _ _ _) _)) (Own.from (has_own _ _ _) _)) (ownFrom_pure _ _)) (ownFrom_below (Nat.le_refl _) (Nat.le_refl _)))
    (fun c => OwnFrom.and (Own.from (fun sx A B row hs hgr hr => by obtain ⟨hc, ini, last, e1, e2, e3, e4⟩ := hs; exact ⟨hc, ini, last, e1, e2, e3, has_own (β := Unit) _ _ _ () A B row e4 hgr hr⟩) _) (ownFrom_below (Nat.le_refl _) (by omega)))
    ⟨⟨⟨⟨hN0, hR0⟩, hD0⟩, by simp⟩, Below.refl _ _⟩
    (fun x a' W => ∃ Bx, w.heap.size + 1 < Bx ∧ Has W Bx 60 #[.int .u32 x.2.f0, .string x.2.f1] ∧ a' = { tmps := #[.pointer (some ⟨g, 0, none⟩), .int .u32 num, undef, .pointer (some ⟨w.heap.size, 0, none⟩), .pointer (some ⟨w.heap.size + 1, 0, none⟩), undef, .pointer (some ⟨Bx, 0, none⟩), undef, undef, .pointer (some ⟨g, 0, none⟩), .pointer (some ⟨g, 0, none⟩), .pointer (some ⟨g, 5, none⟩), v, .pointer (some ⟨g, 0, none⟩), .pointer (some ⟨g, 0, none⟩), .pointer (some ⟨g, 0, none⟩), .pointer (some ⟨g, 2, none⟩), .slice A2 wl.length c2, .func (.func 52) #[] #[.pointer (some ⟨w1.heap.size, 0, none⟩)], .int .i64 x.1, .agg #[.int .u32 x.2.f0, .string x.2.f1], undef, undef, undef, undef, undef, undef, undef, undef, undef, undef, undef, undef, undef, undef, undef, undef, undef, undef, undef, undef, undef, undef], defers := [] })
    (fun x a' _ X Y row hs hgr hr => by obtain ⟨Bx, q1, q2, q3⟩ := hs; exact ⟨Bx, q1, has_own (β := Unit) Bx _ _ () X Y row q2 hgr (fun r e => (hr r e).2), q3⟩)
    ?assign ?body ?done ?stop
  case assign =>
    rintro l pre x W K ⟨⟨⟨⟨hN, hR⟩, hD⟩, hp⟩, hBW⟩ hK
    gi_wp2
    exact hK _ _ ((KeepsOthers.alloc _ _).from _) ((Below.refl _ W).alloc hBW.size _) ⟨⟨⟨⟨hN.alloc _, hR.alloc _⟩, hD.alloc _⟩, hp⟩, hBW.alloc hBW.size _⟩ ⟨W.heap.size, hR.lt, blk_new W _, rfl⟩
  case body =>
    rintro l pre x a' W hl ⟨rr, hr⟩ ⟨⟨⟨⟨hN, hR⟩, hD⟩, hp⟩, hBW⟩ ⟨Bx, hBx, hX, rfl⟩ hlt
    have cN : W.cell? ⟨w.heap.size, 0, none⟩ = some (.int .u32 num) := (blk_cell hN 0).trans rfl
    have cR : W.cell? ⟨w.heap.size + 1, 0, none⟩ = some (.string ⟨#[]⟩) := (blk_cell hR 0).trans rfl
    have fR : W.frozen? ⟨w.heap.size + 1, 0, none⟩ = false := blk_frozen hR 0
    have x0 : W.cell? ⟨Bx, 0, none⟩ = some (.int .u32 x.2.f0) := (blk_cell hX 0).trans rfl
    have x1 : W.cell? ⟨Bx, 1, none⟩ = some (.string x.2.f1) := (blk_cell hX 1).trans rfl
    have Bel := Aside0.mk hBW
    clear hBW
    by_cases hx : x.2.f0 = num
    · have hxb : (x.2.f0 == num) = true := beq_iff_eq.mpr hx
      have HX := Aside0.mk hx
      clear hx
      gi_wp2
      exact ⟨(KeepsOthers.setCell _ _ _).from _, ⟨rfl, pre, x, rfl, hp, HX.out, hR.set 0 (.string x.2.f1)⟩, (hB0.trans (Bel.out.mono hB0.size)).setCell (p := ⟨w.heap.size + 1, 0, none⟩) (by simp; omega) _⟩
    · have hxb : (x.2.f0 == num) = false := beq_eq_false_iff_ne.mpr hx
      have HX := Aside0.mk hx
      clear hx
      gi_wp2
      exact ⟨KeepsFrom.refl _ _, Below.refl _ _, ⟨⟨⟨hN, hR⟩, hD⟩, fun p hp' => (List.mem_append.1 hp').elim (hp p) (fun e => by simp at e; subst e; exact HX.out)⟩, Bel.out⟩
  case done =>
    rintro D ys W hD rfl ⟨⟨⟨⟨hN, hR⟩, hDr⟩, hp⟩, hBW⟩ hK
    have hl : lastOf wl num = none := by
      unfold lastOf
      rw [List.find?_eq_none.2 (fun p hp' => by simpa using hp p hp')]
      rfl
    have hBW0 : Below w0.heap.size w0 W := hB0.trans (hBW.mono hB0.size)
    have C1 := Kd.C_below hC1 hBW0
    unfold readF at h
    rw [hl] at h
    replace h := Option.bind_eq_some_iff.mp h
    obtain ⟨⟨i, is⟩, hs, h⟩ := h
    have cN : W.cell? ⟨w.heap.size, 0, none⟩ = some (.int .u32 num) := (blk_cell hN 0).trans rfl
    have Bel := Aside0.mk hBW0
    have HR := Aside0.mk hR
    have HD := Aside0.mk hDr
    have HK := Aside0.mk hK
    have HC := Aside0.mk C1
    have HS := Aside0.mk hs
    clear hBW0 hBW hR hDr hK C1 hs hl hp hN
    cases is with
    | true =>
      replace h : (if 0 ≤ i ∧ i < (bl.length : Int) then some (rd_T60 bl i).f1 else none) = some r := h
      split at h
      case isFalse => cases h
      case isTrue hir =>
      obtain rfl := Option.some.inj h
      obtain ⟨j, rfl⟩ : ∃ j : Nat, i = j := ⟨i.toNat, (Int.toNat_of_nonneg hir.1).symm⟩
      have hi0 : (0 : Int) ≤ (j : Int) := hir.1
      have hi1 : (j : Int) < (bl.length : Int) := hir.2
      obtain ⟨ad, hA, _, _⟩ := at_T60 HC.out (j : Int) hi0 hi1
      subst hA
      clear h hir
      gi_wp2_with (refine ⟨trivial, ?_⟩; gi_at_call 30; refine (callsIn_wide.2 (placeC_calls k g s (some ad) c1 _ d f m' bl num (j : Int) true _ HD.out HC.out hc1 HS.out)).mono ?_; rintro e w3 ⟨rfl, h3⟩; have q1 : w3.cell? ⟨g, 1, none⟩ = some (.slice (some ad) bl.length c1) := (blk_cell (blk_below HD.out h3) 1).trans rfl; have R3 := Aside0.mk (show Has w3 (w.heap.size + 1) 9 #[.string ⟨#[]⟩] from blk_below HR.out h3); have r0 : w3.cell? ⟨w.heap.size + 1, 0, none⟩ = some (.string ⟨#[]⟩) := (blk_cell R3.out 0).trans rfl; have fr0 : w3.frozen? ⟨w.heap.size + 1, 0, none⟩ = false := blk_frozen R3.out 0; obtain ⟨ad', hA, _, k1⟩ := at_T60 (Kd.C_below HC.out h3) (j : Int) hi0 hi1; cases hA; rw [Int.toNat_natCast] at k1; have K3 := Aside0.mk (blk_below HK.out h3); have B3 := Aside0.mk (hB0.size); have W3 := Aside0.mk (below_then Bel.out (Below.size Bel.out) h3); clear h3 cN)
      have hK' := (KeepsOthers.setCell w3 ⟨w.heap.size + 1, 0, none⟩ (.string (rd_T60 bl (j : Int)).f1)).same D _ K3.out rfl
      refine ⟨by simp, .inl ⟨_, _, rfl, run_takeDeferred hK', ?_⟩⟩
      have hc5 := cell_kept ((blk_cell (R3.out.set 0 (.string (rd_T60 bl (j : Int)).f1)) 0).trans rfl) (grownBy_putObj' _ D (.deferred none)) (fun r e => by cases e; exact ⟨_, hK', rfl⟩)
      refine ⟨.string (rd_T60 bl (j : Int)).f1, ?_, rfl, (W3.out.setCell (p := ⟨w.heap.size + 1, 0, none⟩) (by simp; omega) _).trans (belowK_b (w := W0) hB0.size _ D _ _ hD hK' rfl rfl)⟩
      simp [results, Tryd.f19, go_sem, hc5]
    | false =>
      replace h : some (⟨#[]⟩ : ByteArray) = some r := h
      obtain rfl := Option.some.inj h
      clear h
      gi_wp2_with (refine ⟨trivial, ?_⟩; gi_at_call 30; refine (callsIn_wide.2 (placeC_calls k g s A1 c1 _ d f m' bl num i false _ HD.out HC.out hc1 HS.out)).mono ?_; rintro e w3 ⟨rfl, h3⟩; have R3 := Aside0.mk (show Has w3 (w.heap.size + 1) 9 #[.string ⟨#[]⟩] from blk_below HR.out h3); have r0 : w3.cell? ⟨w.heap.size + 1, 0, none⟩ = some (.string ⟨#[]⟩) := (blk_cell R3.out 0).trans rfl; have fr0 : w3.frozen? ⟨w.heap.size + 1, 0, none⟩ = false := blk_frozen R3.out 0; have K3 := Aside0.mk (blk_below HK.out h3); have W3 := Aside0.mk (below_then Bel.out (Below.size Bel.out) h3); clear h3 cN)
      have hK' := (KeepsOthers.setCell w3 ⟨w.heap.size + 1, 0, none⟩ (.string ⟨#[]⟩)).same D _ K3.out rfl
      refine ⟨by simp, .inl ⟨_, _, rfl, run_takeDeferred hK', ?_⟩⟩
      have hc5 := cell_kept ((blk_cell (R3.out.set 0 (.string ⟨#[]⟩)) 0).trans rfl) (grownBy_putObj' _ D (.deferred none)) (fun r e => by cases e; exact ⟨_, hK', rfl⟩)
      refine ⟨.string ⟨#[]⟩, ?_, rfl, (W3.out.setCell (p := ⟨w.heap.size + 1, 0, none⟩) (by simp; omega) _).trans (belowK_b (w := W0) hB0.size _ D _ _ hD hK' rfl rfl)⟩
      simp [results, Tryd.f19, go_sem, hc5]
  case stop =>
    rintro D c pre W hD ⟨q, hq, rfl⟩ ⟨⟨rfl, ini, last, e1, e2, e3, hR⟩, hBW⟩ hK
    have hl : lastOf wl num = some last.2.f1 := by
      unfold lastOf
      obtain ⟨rest, hr⟩ := uptoB_split (backAt wl) hq
      rw [hr, e1, List.append_assoc, List.find?_append, List.find?_eq_none.2 (fun p hp' => by simpa using e2 p hp'), List.singleton_append, List.find?_cons_of_pos (by simpa using e3)]
      rfl
    unfold readF at h
    rw [hl] at h
    obtain rfl := Option.some.inj h
    gi_wp2
    refine ⟨by simp, .inl ⟨_, _, rfl, run_takeDeferred hK, ?_⟩⟩
    have hc5 := cell_kept ((blk_cell hR 0).trans rfl) (grownBy_putObj' _ D (.deferred none)) (fun r e => by cases e; exact ⟨_, hK, rfl⟩)
    refine ⟨.string last.2.f1, ?_, rfl, hBW.trans (belowK_b (w := W0) hB0.size W D _ _ hD hK rfl rfl)⟩
    simp [results, Tryd.f19, go_sem, hc5]
theorem read_calls (k : Nat) (g : Nat) (s : Int) (A1 : Option Addr) (c1 : Nat) (bl : List Blk) (A2 : Option Addr) (c2 : Nat) (wl : List Blk) (d : Bool) (f m : Int) (num : Int) (r : ByteArray) (w0 w : World)
    (hB : Below w0.heap.size w0 w) (hg : w0.heap.size ≤ g) (hb : w.heap[g]? = some (drv s (.slice A1 bl.length c1) (.slice A2 wl.length c2) d f m)) (hC1 : Kd.C k60 w0 A1 bl.length bl) (hc1 : bl.length ≤ c1) (hC2 : Kd.C k60 w0 A2 wl.length wl) (hc2 : wl.length ≤ c2)
    (h : readF k bl wl num = some r) :
    Calls Tryd.prog 19 #[.pointer (some ⟨g, 0, none⟩), .int .u32 num] w fun e w' => e = .returned (.string r) ∧ Below w0.heap.size w0 w' :=
  (callsIn_wide (n := 6)).1 (read_in Fence.wide rfl 6 rfl k g s A1 c1 bl A2 c2 wl d f m num r w0 w hB hg hb hC1 hc1 hC2 hc2 h)
end Go.Proofs.YthbljhmjppjcjaaDoor.Z
end

section
/- dev.Read, dev.Write, dev.Spoil, dev.Flush, dev.Crash: printed by gendev.py. -/
namespace Go.Proofs.YthbljhmjppjcjaaDoor.Z
open Go.RowKit Go.Proofs.YthbljhmjppjcjaaDoorW.PrintWords Go.Proofs.YthbljhmjppjcjaaDoorW.PrintLast Go.Proofs.YthbljhmjppjcjaaDoorW.PrintMore
set_option linter.unusedVariables false
set_option linter.unusedSimpArgs false
attribute [local go_sem ↓] Go.wp_at_zero Go.wp_at_succ
def dev_Read.f (k : Nat) (a0_0 : Int) (l0_1 : List (S60)) (l0_2 : List (S60)) (a0_3 : Bool) (a0_4 : Int) (a1 : Int) : Option (ByteArray × Int) :=
  (dev_Check.f k a0_0 l0_1 l0_2 a0_3 a0_4).bind fun y => if y = 0 then (if a0_3 = true then some (⟨#[]⟩, 17) else if a1 ≥ a0_0 then some (⟨#[]⟩, 1) else (readF k l0_1 l0_2 a1).bind fun s => some (s, 0)) else some (⟨#[]⟩, y)
theorem dev_Read.mono : ∀ a0 a1 a2 a3 a4 a5 k, LeO (dev_Read.f k a0 a1 a2 a3 a4 a5) (dev_Read.f (k + 1) a0 a1 a2 a3 a4 a5) := by
  intro a0 a1 a2 a3 a4 a5 k
  unfold dev_Read.f
  exact LeO.bind (dev_Check.mono _ _ _ _ _ _) (fun _ => LeO.ite (LeO.ite (LeO.refl _) (LeO.ite (LeO.refl _) (LeO.bind (readF_mono _ _ _ _) (fun _ => LeO.refl _)))) (LeO.refl _))
set_option maxRecDepth 100000 in
set_option maxHeartbeats 3200000 in
theorem dev_Read.calls (k : Nat) (a0_0 : Int) (A0_1 : Option Addr) (c0_1 : Nat) (l0_1 : List (S60)) (A0_2 : Option Addr) (c0_2 : Nat) (l0_2 : List (S60)) (a0_3 : Bool) (a0_4 : Int) (a1 : Int) (r1 : ByteArray) (r2 : Int) (w : World) (hr0_1 : Kd.C k60 w A0_1 l0_1.length l0_1) (hc0_1 : l0_1.length ≤ c0_1) (hr0_2 : Kd.C k60 w A0_2 l0_2.length l0_2) (hc0_2 : l0_2.length ≤ c0_2) (h : dev_Read.f k a0_0 l0_1 l0_2 a0_3 a0_4 a1 = some (r1, r2)) :
    Calls Tryd.prog 9 #[.agg #[.int .u32 a0_0, .slice A0_1 l0_1.length c0_1, .slice A0_2 l0_2.length c0_2, .bool a0_3, .int .i64 a0_4], .int .u32 a1] w fun e w' => e = .returned (.tuple #[.string r1, .int .i64 r2]) ∧ Below w.heap.size w w' := by
  have HR1 := Aside0.mk hr0_1
  have HR2 := Aside0.mk hr0_2
  have HC1 := Aside0.mk hc0_1
  have HC2 := Aside0.mk hc0_2
  clear hr0_1 hr0_2 hc0_1 hc0_2
  unfold dev_Read.f at h
  replace h := Option.bind_eq_some_iff.mp h
  obtain ⟨y, hy, h⟩ := h
  have HY := Aside0.mk hy
  clear hy
  by_cases h0 : y = 0
  · rw [if_pos h0] at h
    subst h0
    by_cases h1 : a0_3 = true
    · rw [if_pos h1] at h
      subst h1
      cases h
      go_enter Tryd.func9, Tryd.ntmps9
      go_wp2_with (first | ((with_reducible refine gate_dst (N := 2) rfl ?_); refine bx_ (N := 2) (cs := #[.int .u32 a0_0, .slice A0_1 l0_1.length c0_1, .slice A0_2 l0_2.length c0_2, .bool true, .int .i64 a0_4]) (t := 30) ?_; intro gd hgd w1 hx hbx; have BD1 := Aside0.mk hx; have K1 := Aside0.mk hbx; have GD := Aside0.mk (show w.heap.size ≤ gd by omega); obtain ⟨z0, z1, z2, z3, z4⟩ := cl5_ BD1; clear hx hbx hgd) | (go_at_call 14; refine (dev_Check.calls k a0_0 A0_1 c0_1 l0_1 A0_2 c0_2 l0_2 true a0_4 _ _ (Kd.C_below HR1.out K1.out) HC1.out (Kd.C_below HR2.out K1.out) HC2.out HY.out).mono ?_; rintro e w3 ⟨rfl, h3⟩; have BD3 := Aside0.mk (blk_below BD1.out h3); have K3 := Aside0.mk (below_step K1.out h3); clear z0 z1 z2 z3 z4; obtain ⟨z0, z1, z2, z3, z4⟩ := cl5_ BD3;   clear h3 BD1 K1))
      go_ret2
      exact ⟨rfl, K3.out⟩
    · rw [if_neg h1] at h
      replace h1 := Bool.eq_false_iff.mpr h1
      subst h1
      by_cases h2 : a1 ≥ a0_0
      · rw [if_pos h2] at h
        cases h
        have h2b : decide (a0_0 ≤ a1) = true := decide_eq_true h2
        go_enter Tryd.func9, Tryd.ntmps9
        go_wp2_with (first | ((with_reducible refine gate_dst (N := 2) rfl ?_); refine bx_ (N := 2) (cs := #[.int .u32 a0_0, .slice A0_1 l0_1.length c0_1, .slice A0_2 l0_2.length c0_2, .bool false, .int .i64 a0_4]) (t := 30) ?_; intro gd hgd w1 hx hbx; have BD1 := Aside0.mk hx; have K1 := Aside0.mk hbx; have GD := Aside0.mk (show w.heap.size ≤ gd by omega); obtain ⟨z0, z1, z2, z3, z4⟩ := cl5_ BD1; clear hx hbx hgd) | (go_at_call 14; refine (dev_Check.calls k a0_0 A0_1 c0_1 l0_1 A0_2 c0_2 l0_2 false a0_4 _ _ (Kd.C_below HR1.out K1.out) HC1.out (Kd.C_below HR2.out K1.out) HC2.out HY.out).mono ?_; rintro e w3 ⟨rfl, h3⟩; have BD3 := Aside0.mk (blk_below BD1.out h3); have K3 := Aside0.mk (below_step K1.out h3); clear z0 z1 z2 z3 z4; obtain ⟨z0, z1, z2, z3, z4⟩ := cl5_ BD3;   clear h3 BD1 K1))
        go_ret2
        exact ⟨rfl, K3.out⟩
      · rw [if_neg h2] at h
        have h2b : decide (a0_0 ≤ a1) = false := decide_eq_false h2
        replace h := Option.bind_eq_some_iff.mp h
        obtain ⟨s, hs, h⟩ := h
        cases h
        have HS := Aside0.mk hs
        clear hs
        replace h2 := Int.lt_of_not_ge h2
        go_enter Tryd.func9, Tryd.ntmps9
        go_wp2_with (first | ((with_reducible refine gate_dst (N := 2) rfl ?_); refine bx_ (N := 2) (cs := #[.int .u32 a0_0, .slice A0_1 l0_1.length c0_1, .slice A0_2 l0_2.length c0_2, .bool false, .int .i64 a0_4]) (t := 30) ?_; intro gd hgd w1 hx hbx; have BD1 := Aside0.mk hx; have K1 := Aside0.mk hbx; have GD := Aside0.mk (show w.heap.size ≤ gd by omega); obtain ⟨z0, z1, z2, z3, z4⟩ := cl5_ BD1; clear hx hbx hgd) | (go_at_call 14; refine (dev_Check.calls k a0_0 A0_1 c0_1 l0_1 A0_2 c0_2 l0_2 false a0_4 _ _ (Kd.C_below HR1.out K1.out) HC1.out (Kd.C_below HR2.out K1.out) HC2.out HY.out).mono ?_; rintro e w3 ⟨rfl, h3⟩; have BD3 := Aside0.mk (blk_below BD1.out h3); have K3 := Aside0.mk (below_step K1.out h3); clear z0 z1 z2 z3 z4; obtain ⟨z0, z1, z2, z3, z4⟩ := cl5_ BD3;   clear h3 BD1 K1) | ((with_reducible refine gate_dst (N := 22) rfl ?_); refine bx_ (N := 22) (cs := #[.int .u32 a0_0, .slice A0_1 l0_1.length c0_1, .slice A0_2 l0_2.length c0_2, .bool false, .int .i64 a0_4, .int .u64 0]) (t := 57) ?_; intro g hg w4 hx hbx; have BG := Aside0.mk hx; have K4 := Aside0.mk (below_step K3.out hbx); have NG := Aside0.mk (show w.heap.size ≤ g by rw [hg]; exact K3.out.size); clear hx hbx hg) | (go_at_call 19; refine (read_calls k g a0_0 A0_1 c0_1 l0_1 A0_2 c0_2 l0_2 false a0_4 0 a1 r1 w _ K4.out NG.out BG.out HR1.out HC1.out HR2.out HC2.out HS.out).mono ?_; rintro e w5 ⟨rfl, h5⟩; have K5 := Aside0.mk h5; clear h5))
        go_ret2
        exact ⟨rfl, K5.out⟩
  · rw [if_neg h0] at h
    cases h
    have h0b : (r2 == 0) = false := beq_eq_false_iff_ne.mpr h0
    have h0c : (r2 != 0) = true := bne_iff_ne.mpr h0
    go_enter Tryd.func9, Tryd.ntmps9
    go_wp2_with (first | ((with_reducible refine gate_dst (N := 2) rfl ?_); refine bx_ (N := 2) (cs := #[.int .u32 a0_0, .slice A0_1 l0_1.length c0_1, .slice A0_2 l0_2.length c0_2, .bool a0_3, .int .i64 a0_4]) (t := 30) ?_; intro gd hgd w1 hx hbx; have BD1 := Aside0.mk hx; have K1 := Aside0.mk hbx; have GD := Aside0.mk (show w.heap.size ≤ gd by omega); obtain ⟨z0, z1, z2, z3, z4⟩ := cl5_ BD1; clear hx hbx hgd) | (go_at_call 14; refine (dev_Check.calls k a0_0 A0_1 c0_1 l0_1 A0_2 c0_2 l0_2 a0_3 a0_4 _ _ (Kd.C_below HR1.out K1.out) HC1.out (Kd.C_below HR2.out K1.out) HC2.out HY.out).mono ?_; rintro e w3 ⟨rfl, h3⟩; have BD3 := Aside0.mk (blk_below BD1.out h3); have K3 := Aside0.mk (below_step K1.out h3); clear z0 z1 z2 z3 z4; obtain ⟨z0, z1, z2, z3, z4⟩ := cl5_ BD3;   clear h3 BD1 K1))
    go_ret2
    exact ⟨rfl, K3.out⟩
theorem res_dev {w0 w : World} {g gr : Nat} {s : Int} {vB vW : Value} {bl wl : List Blk} {d : Bool} {f n : Int} {z0 z1 z2 z3 z4 : Value} (h : Drv w0 w g s vB vW bl wl d f n) (hr : w.heap[gr]? = some (.cells #[z0, z1, z2, z3, z4] 30 (0, 0))) (hgr : w0.heap.size ≤ gr) :
    (((((w.setCell ⟨gr, 0, none⟩ (.int .u32 s)).setCell ⟨gr, 1, none⟩ vB).setCell ⟨gr, 2, none⟩ vW).setCell ⟨gr, 3, none⟩ (.bool d)).setCell ⟨gr, 4, none⟩ (.int .i64 f)).heap[gr]? = some (.cells #[.int .u32 s, vB, vW, .bool d, .int .i64 f] 30 (0, 0)) ∧
    Own (((((w.setCell ⟨gr, 0, none⟩ (.int .u32 s)).setCell ⟨gr, 1, none⟩ vB).setCell ⟨gr, 2, none⟩ vW).setCell ⟨gr, 3, none⟩ (.bool d)).setCell ⟨gr, 4, none⟩ (.int .i64 f)) w0.heap.size (fun k_ => some k_ ≠ vW.ownBlock) vB bl ∧
    Own (((((w.setCell ⟨gr, 0, none⟩ (.int .u32 s)).setCell ⟨gr, 1, none⟩ vB).setCell ⟨gr, 2, none⟩ vW).setCell ⟨gr, 3, none⟩ (.bool d)).setCell ⟨gr, 4, none⟩ (.int .i64 f)) w0.heap.size (fun k_ => some k_ ≠ vB.ownBlock) vW wl ∧
    Below w0.heap.size w0 (((((w.setCell ⟨gr, 0, none⟩ (.int .u32 s)).setCell ⟨gr, 1, none⟩ vB).setCell ⟨gr, 2, none⟩ vW).setCell ⟨gr, 3, none⟩ (.bool d)).setCell ⟨gr, 4, none⟩ (.int .i64 f)) := by
  have hs := (((((Step.refl hr).set 0 (.int .u32 s) rfl).set 1 vB rfl).set 2 vW rfl).set 3 (.bool d) rfl).set 4 (.int .i64 f) rfl
  obtain ⟨h1, h2, h3, h4, h5⟩ := h
  exact ⟨hs.1, Kd.R_mono (Kd.R_keep (Kd.R_types h3 hr (by decide)) hs.2.1 (fun _ hk => hk.2)) (fun _ hk => hk.1), Kd.R_mono (Kd.R_keep (Kd.R_types h4 hr (by decide)) hs.2.1 (fun _ hk => hk.2)) (fun _ hk => hk.1), h5.trans (hs.2.2 _ hgr)⟩
theorem res_zero {w0 w : World} {gr : Nat} {z0 z1 z2 z3 z4 : Value} (h5 : Below w0.heap.size w0 w) (hr : w.heap[gr]? = some (.cells #[z0, z1, z2, z3, z4] 30 (0, 0))) (hgr : w0.heap.size ≤ gr) :
    (((((w.setCell ⟨gr, 0, none⟩ (.int .u32 0)).setCell ⟨gr, 1, none⟩ (.slice none 0 0)).setCell ⟨gr, 2, none⟩ (.slice none 0 0)).setCell ⟨gr, 3, none⟩ (.bool false)).setCell ⟨gr, 4, none⟩ (.int .i64 0)).heap[gr]? = some (.cells #[.int .u32 0, .slice none 0 0, .slice none 0 0, .bool false, .int .i64 0] 30 (0, 0)) ∧
    Below w0.heap.size w0 (((((w.setCell ⟨gr, 0, none⟩ (.int .u32 0)).setCell ⟨gr, 1, none⟩ (.slice none 0 0)).setCell ⟨gr, 2, none⟩ (.slice none 0 0)).setCell ⟨gr, 3, none⟩ (.bool false)).setCell ⟨gr, 4, none⟩ (.int .i64 0)) := by
  have hs := (((((Step.refl hr).set 0 (.int .u32 0) rfl).set 1 (.slice none 0 0) rfl).set 2 (.slice none 0 0) rfl).set 3 (.bool false) rfl).set 4 (.int .i64 0) rfl
  exact ⟨hs.1, h5.trans (hs.2.2 _ hgr)⟩
theorem own_mono (a : Int) (b c : List Blk) (d : Bool) (e : Int) : LeO (dev_Own.f a b c d e) (dev_Own.f a b c d e) := LeO.refl _
def dev_Spoil.f (k : Nat) (a0_0 : Int) (l0_1 : List (S60)) (l0_2 : List (S60)) (a0_3 : Bool) (a0_4 : Int) (a1 : Int) (a2 : ByteArray) : Option (Int × (List (S60)) × (List (S60)) × Bool × Int × Int) :=
  (dev_Check.f k a0_0 l0_1 l0_2 a0_3 a0_4).bind fun y => if y = 0 then ((dev_Own.f a0_0 l0_1 l0_2 a0_3 a0_4).bind fun q => if a1 ≥ a0_0 then some (q.1, q.2.1, q.2.2.1, q.2.2.2.1, q.2.2.2.2, 1) else if (a2.size : Int) > 512 then some (q.1, q.2.1, q.2.2.1, q.2.2.2.1, q.2.2.2.2, 2) else (dev_cut.f a2).bind fun t => (putF k q.2.1 ⟨a1, t⟩).bind fun b => some (q.1, b, q.2.2.1, q.2.2.2.1, q.2.2.2.2, 0)) else some (0, ([] : List (S60)), ([] : List (S60)), false, 0, y)
theorem dev_Spoil.mono : ∀ a0 a1 a2 a3 a4 a5 a6 k, LeO (dev_Spoil.f k a0 a1 a2 a3 a4 a5 a6) (dev_Spoil.f (k + 1) a0 a1 a2 a3 a4 a5 a6) := by
  intro a0 a1 a2 a3 a4 a5 a6 k
  unfold dev_Spoil.f
  exact LeO.bind (dev_Check.mono _ _ _ _ _ _) (fun _ => LeO.ite (LeO.bind (LeO.refl _) (fun _ => LeO.ite (LeO.refl _) (LeO.ite (LeO.refl _) (LeO.bind (LeO.refl _) (fun _ => LeO.bind (putF_mono _ _ _) (fun _ => LeO.refl _)))))) (LeO.refl _))
theorem Drv.drew {w0 w : World} {g : Nat} {s : Int} {vB vW : Value} {bl wl : List Blk} {d : Bool} {f n : Int} (h : Drv w0 w g s vB vW bl wl d f n) : Drv w0 w.drew g s vB vW bl wl d f n :=
  ⟨blk_drew h.1, h.2.1, Kd.R_drew h.2.2.1, Kd.R_drew h.2.2.2.1, below_drew1 h.2.2.2.2⟩
theorem burn_at (x : Bool) {g : Nat} {s : Int} {vB vW : Value} {d : Bool} {f n : Int} {w : World} (hb : w.heap[g]? = some (drv s vB vW d f n)) (hx : downOf d f = x) :
    Calls Tryd.prog 17 #[.pointer (some ⟨g, 0, none⟩)] w fun e w' => e = .returned (.bool (!x)) ∧ Step g w w' (drv s vB vW x (fuseOf f) n) := hx ▸ burn_calls g s vB vW d f n w hb
/-- A write more waits. -/
theorem Drv.wait {w0 w w1 : World} {g : Nat} {s : Int} {vB vW v : Value} {bl wl wl' : List Blk} {d : Bool} {f n : Int} (h : Drv w0 w g s vB vW bl wl d f n) (hg : w.grownBy w1 vW.ownBlock) (hat : v.ownBlock = vW.ownBlock ∨ ∃ b, v.ownBlock = some b ∧ w.heap.size ≤ b)
    (hB : Below w0.heap.size w0 w1) (hO : Own w1 w0.heap.size (fun k => some k ≠ vB.ownBlock) v wl') : Drv w0 (w1.setCell ⟨g, 2, none⟩ v) g s vB v bl wl' d f n := by
  obtain ⟨h1, h2, h3, h4, h5⟩ := h
  have B1 := blk_grown h1 hg (own_ne h4 h1 (by decide))
  have R1 : Own w1 w0.heap.size (fun k => some k ≠ v.ownBlock) vB bl := Kd.R_mono (Kd.R_after (ok := fun _ => True) (Kd.R_mono h3 (fun _ hk => ⟨trivial, hk⟩)) hg hat) (fun _ hk => hk.2)
  exact ⟨blk_set B1 2 v, h2, Kd.R_mono (Kd.R_far (p := ⟨g, 2, none⟩) (Kd.R_types R1 B1 (by decide)) (fun _ hk => hk.2) v) (fun _ hk => hk.1), Kd.R_mono (Kd.R_far (p := ⟨g, 2, none⟩) (Kd.R_types hO B1 (by decide)) (fun _ hk => hk.2) v) (fun _ hk => hk.1), hB.setCell (p := ⟨g, 2, none⟩) h2 v⟩
def dev_Write.f (k : Nat) (a0_0 : Int) (l0_1 : List (S60)) (l0_2 : List (S60)) (a0_3 : Bool) (a0_4 : Int) (a1 : Int) (a2 : ByteArray) : Option (Int × (List (S60)) × (List (S60)) × Bool × Int × Int) :=
  (dev_Check.f k a0_0 l0_1 l0_2 a0_3 a0_4).bind fun y => if y = 0 then ((dev_Own.f a0_0 l0_1 l0_2 a0_3 a0_4).bind fun q => if a0_3 = true then some (q.1, q.2.1, q.2.2.1, q.2.2.2.1, q.2.2.2.2, 17) else if a1 ≥ a0_0 then some (q.1, q.2.1, q.2.2.1, q.2.2.2.1, q.2.2.2.2, 1) else if (a2.size : Int) > 512 then some (q.1, q.2.1, q.2.2.1, q.2.2.2.1, q.2.2.2.2, 2) else if (l0_2.length : Int) ≥ 16384 then some (q.1, q.2.1, q.2.2.1, q.2.2.2.1, q.2.2.2.2, 8) else (dev_cut.f a2).bind fun t => if q.2.2.1.length < 5864062014805 then some (q.1, q.2.1, q.2.2.1 ++ [⟨a1, t⟩], downOf q.2.2.2.1 q.2.2.2.2, fuseOf q.2.2.2.2, if downOf q.2.2.2.1 q.2.2.2.2 = true then 17 else 0) else none) else some (0, ([] : List (S60)), ([] : List (S60)), false, 0, y)
theorem dev_Write.mono : ∀ a0 a1 a2 a3 a4 a5 a6 k, LeO (dev_Write.f k a0 a1 a2 a3 a4 a5 a6) (dev_Write.f (k + 1) a0 a1 a2 a3 a4 a5 a6) := by
  intro a0 a1 a2 a3 a4 a5 a6 k
  unfold dev_Write.f
  exact LeO.bind (dev_Check.mono _ _ _ _ _ _) (fun _ => LeO.refl _)
set_option maxRecDepth 100000 in
set_option maxHeartbeats 6400000 in
theorem dev_Write.calls (k : Nat) (a0_0 : Int) (A0_1 : Option Addr) (c0_1 : Nat) (l0_1 : List (S60)) (A0_2 : Option Addr) (c0_2 : Nat) (l0_2 : List (S60)) (a0_3 : Bool) (a0_4 : Int) (a1 : Int) (a2 : ByteArray) (r1 : Int) (r2 : List (S60)) (r3 : List (S60)) (r4 : Bool) (r5 : Int) (r6 : Int) (w : World) (hr0_1 : Kd.C k60 w A0_1 l0_1.length l0_1) (hc0_1 : l0_1.length ≤ c0_1) (hr0_2 : Kd.C k60 w A0_2 l0_2.length l0_2) (hc0_2 : l0_2.length ≤ c0_2) (h : dev_Write.f k a0_0 l0_1 l0_2 a0_3 a0_4 a1 a2 = some (r1, r2, r3, r4, r5, r6)) :
    Calls Tryd.prog 6 #[.agg #[.int .u32 a0_0, .slice A0_1 l0_1.length c0_1, .slice A0_2 l0_2.length c0_2, .bool a0_3, .int .i64 a0_4], .int .u32 a1, .string a2] w fun e w' => ∃ v1_ v2_ : Value, e = .returned (.tuple #[.agg #[.int .u32 r1, v1_, v2_, .bool r4, .int .i64 r5], .int .i64 r6]) ∧ Kd.R k60 60 w' w.heap.size (fun k_ => some k_ ≠ (v2_ : Value).ownBlock) v1_ r2 ∧ Kd.R k60 60 w' w.heap.size (fun k_ => some k_ ≠ (v1_ : Value).ownBlock) v2_ r3 ∧ Below w.heap.size w w' := by
  have HR1 := Aside0.mk hr0_1
  have HR2 := Aside0.mk hr0_2
  have HC1 := Aside0.mk hc0_1
  have HC2 := Aside0.mk hc0_2
  clear hr0_1 hr0_2 hc0_1 hc0_2
  unfold dev_Write.f at h
  replace h := Option.bind_eq_some_iff.mp h
  obtain ⟨y, hy, h⟩ := h
  have HY := Aside0.mk hy
  clear hy
  by_cases h0 : y = 0
  · rw [if_pos h0] at h
    subst h0
    replace h := Option.bind_eq_some_iff.mp h
    obtain ⟨⟨q1, q2, q3, q4, q5⟩, hq, h⟩ := h
    have HO := Aside0.mk hq
    clear hq
    replace h : (if a0_3 = true then some (q1, q2, q3, q4, q5, 17) else if a1 ≥ a0_0 then some (q1, q2, q3, q4, q5, 1) else if (a2.size : Int) > 512 then some (q1, q2, q3, q4, q5, 2) else if (l0_2.length : Int) ≥ 16384 then some (q1, q2, q3, q4, q5, 8) else (dev_cut.f a2).bind fun t => if q3.length < 5864062014805 then some (q1, q2, q3 ++ [⟨a1, t⟩], downOf q4 q5, fuseOf q5, if downOf q4 q5 = true then 17 else 0) else none) = some (r1, r2, r3, r4, r5, r6) := h
    by_cases h1 : a0_3 = true
    · rw [if_pos h1] at h
      subst h1
      simp only [Option.some.injEq, Prod.mk.injEq] at h
      obtain ⟨rfl, rfl, rfl, rfl, rfl, rfl⟩ := h
      go_enter Tryd.func6, Tryd.ntmps6
      go_wp2_with (first | ((with_reducible refine gate_dst (N := 3) rfl ?_); refine bx_ (N := 3) (cs := #[.int .u32 a0_0, .slice A0_1 l0_1.length c0_1, .slice A0_2 l0_2.length c0_2, .bool true, .int .i64 a0_4]) (t := 30) ?_; intro gd hgd w1 hx hbx; have BD1 := Aside0.mk hx; have K1 := Aside0.mk hbx; have GD := Aside0.mk (show w.heap.size ≤ gd by omega); obtain ⟨z0, z1, z2, z3, z4⟩ := cl5_ BD1; clear hx hbx hgd) | ((with_reducible refine gate_dst (N := 6) rfl ?_); refine bx_ (N := 6) (cs := #[.int .u32 0, .slice none 0 0, .slice none 0 0, .bool false, .int .i64 0]) (t := 30) ?_; intro gr hgr w2 hx hbx; have BR2 := Aside0.mk hx; have BD2 := Aside0.mk (blk_below BD1.out hbx); have K2 := Aside0.mk (below_step K1.out hbx); have NE := Aside0.mk (show gr ≠ gd by rw [hgr]; exact fun e => Nat.lt_irrefl _ (e ▸ blk_lt BD1.out)); have GR := Aside0.mk (show w.heap.size ≤ gr by rw [hgr]; exact K1.out.size); clear z0 z1 z2 z3 z4; obtain ⟨z0, z1, z2, z3, z4⟩ := cl5_ BD2; clear hx hbx hgr K1 BD1) | (go_at_call 14; refine (dev_Check.calls k a0_0 A0_1 c0_1 l0_1 A0_2 c0_2 l0_2 true a0_4 _ _ (Kd.C_below HR1.out K2.out) HC1.out (Kd.C_below HR2.out K2.out) HC2.out HY.out).mono ?_; rintro e w3 ⟨rfl, h3⟩; have BR3 := Aside0.mk (blk_below BR2.out h3); have BD3 := Aside0.mk (blk_below BD2.out h3); have K3 := Aside0.mk (below_step K2.out h3); clear z0 z1 z2 z3 z4; obtain ⟨z0, z1, z2, z3, z4⟩ := cl5_ BD3; obtain ⟨r0, r1, r2, r3, r4⟩ := cl5_ BR3; obtain ⟨rf0, rf1, rf2, rf3, rf4⟩ := fz5_ BR3; clear h3 BR2 BD2 K2) | (go_at_call 15; refine (open_calls a0_0 A0_1 c0_1 l0_1 A0_2 c0_2 l0_2 true a0_4 q1 q2 q3 q4 q5 w _ K3.out (Kd.C_below HR1.out K3.out) HC1.out (Kd.C_below HR2.out K3.out) HC2.out HO.out).mono ?_; rintro e w4 ⟨g, a1_, b1_, a2_, b2_, rfl, hg4, h4, hd4⟩; have D4 := Aside0.mk hd4; have BR4 := Aside0.mk (blk_below BR3.out h4); have BD4 := Aside0.mk (blk_below BD3.out h4); have NG := Aside0.mk (show g ≠ gr from fun e => by have := blk_lt BR3.out; omega); have ND := Aside0.mk (show g ≠ gd from fun e => by have := blk_lt BD3.out; omega); clear z0 z1 z2 z3 z4 r0 r1 r2 r3 r4 rf0 rf1 rf2 rf3 rf4; obtain ⟨z0, z1, z2, z3, z4⟩ := cl5_ BD4; obtain ⟨r0, r1, r2, r3, r4⟩ := cl5_ BR4; obtain ⟨rf0, rf1, rf2, rf3, rf4⟩ := fz5_ BR4; have g0 : w4.cell? ⟨g, 0, none⟩ = some (.int .u32 q1) := (blk_cell D4.out.1 0).trans rfl; have g1 : w4.cell? ⟨g, 1, none⟩ = some (.slice a1_ q2.length b1_) := (blk_cell D4.out.1 1).trans rfl; have g2 : w4.cell? ⟨g, 2, none⟩ = some (.slice a2_ q3.length b2_) := (blk_cell D4.out.1 2).trans rfl; have g3 : w4.cell? ⟨g, 3, none⟩ = some (.bool q4) := (blk_cell D4.out.1 3).trans rfl; have g4 : w4.cell? ⟨g, 4, none⟩ = some (.int .i64 q5) := (blk_cell D4.out.1 4).trans rfl; clear h4 hd4 hg4 BR3 BD3 K3))
      have hs := res_dev D4.out BR4.out GR.out
      refine bodyPost_ret (results_ct rfl _ _ gr 30 #[.int .u32 q1, .slice a1_ q2.length b1_, .slice a2_ q3.length b2_, .bool q4, .int .i64 q5] (0, 0) _ rfl hs.1 Tryd.underlying30 rfl (by kernel_rfl)) rfl ?_
      exact ⟨_, _, rfl, hs.2⟩
    · rw [if_neg h1] at h
      replace h1 := Bool.eq_false_iff.mpr h1
      subst h1
      by_cases h2 : a1 ≥ a0_0
      · rw [if_pos h2] at h
        simp only [Option.some.injEq, Prod.mk.injEq] at h
        obtain ⟨rfl, rfl, rfl, rfl, rfl, rfl⟩ := h
        have h2b : decide (a0_0 ≤ a1) = true := decide_eq_true h2
        go_enter Tryd.func6, Tryd.ntmps6
        go_wp2_with (first | ((with_reducible refine gate_dst (N := 3) rfl ?_); refine bx_ (N := 3) (cs := #[.int .u32 a0_0, .slice A0_1 l0_1.length c0_1, .slice A0_2 l0_2.length c0_2, .bool false, .int .i64 a0_4]) (t := 30) ?_; intro gd hgd w1 hx hbx; have BD1 := Aside0.mk hx; have K1 := Aside0.mk hbx; have GD := Aside0.mk (show w.heap.size ≤ gd by omega); obtain ⟨z0, z1, z2, z3, z4⟩ := cl5_ BD1; clear hx hbx hgd) | ((with_reducible refine gate_dst (N := 6) rfl ?_); refine bx_ (N := 6) (cs := #[.int .u32 0, .slice none 0 0, .slice none 0 0, .bool false, .int .i64 0]) (t := 30) ?_; intro gr hgr w2 hx hbx; have BR2 := Aside0.mk hx; have BD2 := Aside0.mk (blk_below BD1.out hbx); have K2 := Aside0.mk (below_step K1.out hbx); have NE := Aside0.mk (show gr ≠ gd by rw [hgr]; exact fun e => Nat.lt_irrefl _ (e ▸ blk_lt BD1.out)); have GR := Aside0.mk (show w.heap.size ≤ gr by rw [hgr]; exact K1.out.size); clear z0 z1 z2 z3 z4; obtain ⟨z0, z1, z2, z3, z4⟩ := cl5_ BD2; clear hx hbx hgr K1 BD1) | (go_at_call 14; refine (dev_Check.calls k a0_0 A0_1 c0_1 l0_1 A0_2 c0_2 l0_2 false a0_4 _ _ (Kd.C_below HR1.out K2.out) HC1.out (Kd.C_below HR2.out K2.out) HC2.out HY.out).mono ?_; rintro e w3 ⟨rfl, h3⟩; have BR3 := Aside0.mk (blk_below BR2.out h3); have BD3 := Aside0.mk (blk_below BD2.out h3); have K3 := Aside0.mk (below_step K2.out h3); clear z0 z1 z2 z3 z4; obtain ⟨z0, z1, z2, z3, z4⟩ := cl5_ BD3; obtain ⟨r0, r1, r2, r3, r4⟩ := cl5_ BR3; obtain ⟨rf0, rf1, rf2, rf3, rf4⟩ := fz5_ BR3; clear h3 BR2 BD2 K2) | (go_at_call 15; refine (open_calls a0_0 A0_1 c0_1 l0_1 A0_2 c0_2 l0_2 false a0_4 q1 q2 q3 q4 q5 w _ K3.out (Kd.C_below HR1.out K3.out) HC1.out (Kd.C_below HR2.out K3.out) HC2.out HO.out).mono ?_; rintro e w4 ⟨g, a1_, b1_, a2_, b2_, rfl, hg4, h4, hd4⟩; have D4 := Aside0.mk hd4; have BR4 := Aside0.mk (blk_below BR3.out h4); have BD4 := Aside0.mk (blk_below BD3.out h4); have NG := Aside0.mk (show g ≠ gr from fun e => by have := blk_lt BR3.out; omega); have ND := Aside0.mk (show g ≠ gd from fun e => by have := blk_lt BD3.out; omega); clear z0 z1 z2 z3 z4 r0 r1 r2 r3 r4 rf0 rf1 rf2 rf3 rf4; obtain ⟨z0, z1, z2, z3, z4⟩ := cl5_ BD4; obtain ⟨r0, r1, r2, r3, r4⟩ := cl5_ BR4; obtain ⟨rf0, rf1, rf2, rf3, rf4⟩ := fz5_ BR4; have g0 : w4.cell? ⟨g, 0, none⟩ = some (.int .u32 q1) := (blk_cell D4.out.1 0).trans rfl; have g1 : w4.cell? ⟨g, 1, none⟩ = some (.slice a1_ q2.length b1_) := (blk_cell D4.out.1 1).trans rfl; have g2 : w4.cell? ⟨g, 2, none⟩ = some (.slice a2_ q3.length b2_) := (blk_cell D4.out.1 2).trans rfl; have g3 : w4.cell? ⟨g, 3, none⟩ = some (.bool q4) := (blk_cell D4.out.1 3).trans rfl; have g4 : w4.cell? ⟨g, 4, none⟩ = some (.int .i64 q5) := (blk_cell D4.out.1 4).trans rfl; clear h4 hd4 hg4 BR3 BD3 K3))
        have hs := res_dev D4.out BR4.out GR.out
        refine bodyPost_ret (results_ct rfl _ _ gr 30 #[.int .u32 q1, .slice a1_ q2.length b1_, .slice a2_ q3.length b2_, .bool q4, .int .i64 q5] (0, 0) _ rfl hs.1 Tryd.underlying30 rfl (by kernel_rfl)) rfl ?_
        exact ⟨_, _, rfl, hs.2⟩
      · rw [if_neg h2] at h
        have h2b : decide (a0_0 ≤ a1) = false := decide_eq_false h2
        replace h2 := Int.lt_of_not_ge h2
        by_cases h3 : (a2.size : Int) > 512
        · rw [if_pos h3] at h
          simp only [Option.some.injEq, Prod.mk.injEq] at h
          obtain ⟨rfl, rfl, rfl, rfl, rfl, rfl⟩ := h
          have h3b : decide (512 < (a2.size : Int)) = true := decide_eq_true h3
          go_enter Tryd.func6, Tryd.ntmps6
          go_wp2_with (first | ((with_reducible refine gate_dst (N := 3) rfl ?_); refine bx_ (N := 3) (cs := #[.int .u32 a0_0, .slice A0_1 l0_1.length c0_1, .slice A0_2 l0_2.length c0_2, .bool false, .int .i64 a0_4]) (t := 30) ?_; intro gd hgd w1 hx hbx; have BD1 := Aside0.mk hx; have K1 := Aside0.mk hbx; have GD := Aside0.mk (show w.heap.size ≤ gd by omega); obtain ⟨z0, z1, z2, z3, z4⟩ := cl5_ BD1; clear hx hbx hgd) | ((with_reducible refine gate_dst (N := 6) rfl ?_); refine bx_ (N := 6) (cs := #[.int .u32 0, .slice none 0 0, .slice none 0 0, .bool false, .int .i64 0]) (t := 30) ?_; intro gr hgr w2 hx hbx; have BR2 := Aside0.mk hx; have BD2 := Aside0.mk (blk_below BD1.out hbx); have K2 := Aside0.mk (below_step K1.out hbx); have NE := Aside0.mk (show gr ≠ gd by rw [hgr]; exact fun e => Nat.lt_irrefl _ (e ▸ blk_lt BD1.out)); have GR := Aside0.mk (show w.heap.size ≤ gr by rw [hgr]; exact K1.out.size); clear z0 z1 z2 z3 z4; obtain ⟨z0, z1, z2, z3, z4⟩ := cl5_ BD2; clear hx hbx hgr K1 BD1) | (go_at_call 14; refine (dev_Check.calls k a0_0 A0_1 c0_1 l0_1 A0_2 c0_2 l0_2 false a0_4 _ _ (Kd.C_below HR1.out K2.out) HC1.out (Kd.C_below HR2.out K2.out) HC2.out HY.out).mono ?_; rintro e w3 ⟨rfl, h3⟩; have BR3 := Aside0.mk (blk_below BR2.out h3); have BD3 := Aside0.mk (blk_below BD2.out h3); have K3 := Aside0.mk (below_step K2.out h3); clear z0 z1 z2 z3 z4; obtain ⟨z0, z1, z2, z3, z4⟩ := cl5_ BD3; obtain ⟨r0, r1, r2, r3, r4⟩ := cl5_ BR3; obtain ⟨rf0, rf1, rf2, rf3, rf4⟩ := fz5_ BR3; clear h3 BR2 BD2 K2) | (go_at_call 15; refine (open_calls a0_0 A0_1 c0_1 l0_1 A0_2 c0_2 l0_2 false a0_4 q1 q2 q3 q4 q5 w _ K3.out (Kd.C_below HR1.out K3.out) HC1.out (Kd.C_below HR2.out K3.out) HC2.out HO.out).mono ?_; rintro e w4 ⟨g, a1_, b1_, a2_, b2_, rfl, hg4, h4, hd4⟩; have D4 := Aside0.mk hd4; have BR4 := Aside0.mk (blk_below BR3.out h4); have BD4 := Aside0.mk (blk_below BD3.out h4); have NG := Aside0.mk (show g ≠ gr from fun e => by have := blk_lt BR3.out; omega); have ND := Aside0.mk (show g ≠ gd from fun e => by have := blk_lt BD3.out; omega); clear z0 z1 z2 z3 z4 r0 r1 r2 r3 r4 rf0 rf1 rf2 rf3 rf4; obtain ⟨z0, z1, z2, z3, z4⟩ := cl5_ BD4; obtain ⟨r0, r1, r2, r3, r4⟩ := cl5_ BR4; obtain ⟨rf0, rf1, rf2, rf3, rf4⟩ := fz5_ BR4; have g0 : w4.cell? ⟨g, 0, none⟩ = some (.int .u32 q1) := (blk_cell D4.out.1 0).trans rfl; have g1 : w4.cell? ⟨g, 1, none⟩ = some (.slice a1_ q2.length b1_) := (blk_cell D4.out.1 1).trans rfl; have g2 : w4.cell? ⟨g, 2, none⟩ = some (.slice a2_ q3.length b2_) := (blk_cell D4.out.1 2).trans rfl; have g3 : w4.cell? ⟨g, 3, none⟩ = some (.bool q4) := (blk_cell D4.out.1 3).trans rfl; have g4 : w4.cell? ⟨g, 4, none⟩ = some (.int .i64 q5) := (blk_cell D4.out.1 4).trans rfl; clear h4 hd4 hg4 BR3 BD3 K3))
          have hs := res_dev D4.out BR4.out GR.out
          refine bodyPost_ret (results_ct rfl _ _ gr 30 #[.int .u32 q1, .slice a1_ q2.length b1_, .slice a2_ q3.length b2_, .bool q4, .int .i64 q5] (0, 0) _ rfl hs.1 Tryd.underlying30 rfl (by kernel_rfl)) rfl ?_
          exact ⟨_, _, rfl, hs.2⟩
        · rw [if_neg h3] at h
          have h3b : decide (512 < (a2.size : Int)) = false := decide_eq_false h3
          replace h3 := Int.le_of_not_gt h3
          by_cases h4 : (l0_2.length : Int) ≥ 16384
          · rw [if_pos h4] at h
            simp only [Option.some.injEq, Prod.mk.injEq] at h
            obtain ⟨rfl, rfl, rfl, rfl, rfl, rfl⟩ := h
            have h4b : decide (16384 ≤ (l0_2.length : Int)) = true := decide_eq_true h4
            go_enter Tryd.func6, Tryd.ntmps6
            go_wp2_with (first | ((with_reducible refine gate_dst (N := 3) rfl ?_); refine bx_ (N := 3) (cs := #[.int .u32 a0_0, .slice A0_1 l0_1.length c0_1, .slice A0_2 l0_2.length c0_2, .bool false, .int .i64 a0_4]) (t := 30) ?_; intro gd hgd w1 hx hbx; have BD1 := Aside0.mk hx; have K1 := Aside0.mk hbx; have GD := Aside0.mk (show w.heap.size ≤ gd by omega); obtain ⟨z0, z1, z2, z3, z4⟩ := cl5_ BD1; clear hx hbx hgd) | ((with_reducible refine gate_dst (N := 6) rfl ?_); refine bx_ (N := 6) (cs := #[.int .u32 0, .slice none 0 0, .slice none 0 0, .bool false, .int .i64 0]) (t := 30) ?_; intro gr hgr w2 hx hbx; have BR2 := Aside0.mk hx; have BD2 := Aside0.mk (blk_below BD1.out hbx); have K2 := Aside0.mk (below_step K1.out hbx); have NE := Aside0.mk (show gr ≠ gd by rw [hgr]; exact fun e => Nat.lt_irrefl _ (e ▸ blk_lt BD1.out)); have GR := Aside0.mk (show w.heap.size ≤ gr by rw [hgr]; exact K1.out.size); clear z0 z1 z2 z3 z4; obtain ⟨z0, z1, z2, z3, z4⟩ := cl5_ BD2; clear hx hbx hgr K1 BD1) | (go_at_call 14; refine (dev_Check.calls k a0_0 A0_1 c0_1 l0_1 A0_2 c0_2 l0_2 false a0_4 _ _ (Kd.C_below HR1.out K2.out) HC1.out (Kd.C_below HR2.out K2.out) HC2.out HY.out).mono ?_; rintro e w3 ⟨rfl, h3⟩; have BR3 := Aside0.mk (blk_below BR2.out h3); have BD3 := Aside0.mk (blk_below BD2.out h3); have K3 := Aside0.mk (below_step K2.out h3); clear z0 z1 z2 z3 z4; obtain ⟨z0, z1, z2, z3, z4⟩ := cl5_ BD3; obtain ⟨r0, r1, r2, r3, r4⟩ := cl5_ BR3; obtain ⟨rf0, rf1, rf2, rf3, rf4⟩ := fz5_ BR3; clear h3 BR2 BD2 K2) | (go_at_call 15; refine (open_calls a0_0 A0_1 c0_1 l0_1 A0_2 c0_2 l0_2 false a0_4 q1 q2 q3 q4 q5 w _ K3.out (Kd.C_below HR1.out K3.out) HC1.out (Kd.C_below HR2.out K3.out) HC2.out HO.out).mono ?_; rintro e w4 ⟨g, a1_, b1_, a2_, b2_, rfl, hg4, h4, hd4⟩; have D4 := Aside0.mk hd4; have BR4 := Aside0.mk (blk_below BR3.out h4); have BD4 := Aside0.mk (blk_below BD3.out h4); have NG := Aside0.mk (show g ≠ gr from fun e => by have := blk_lt BR3.out; omega); have ND := Aside0.mk (show g ≠ gd from fun e => by have := blk_lt BD3.out; omega); clear z0 z1 z2 z3 z4 r0 r1 r2 r3 r4 rf0 rf1 rf2 rf3 rf4; obtain ⟨z0, z1, z2, z3, z4⟩ := cl5_ BD4; obtain ⟨r0, r1, r2, r3, r4⟩ := cl5_ BR4; obtain ⟨rf0, rf1, rf2, rf3, rf4⟩ := fz5_ BR4; have g0 : w4.cell? ⟨g, 0, none⟩ = some (.int .u32 q1) := (blk_cell D4.out.1 0).trans rfl; have g1 : w4.cell? ⟨g, 1, none⟩ = some (.slice a1_ q2.length b1_) := (blk_cell D4.out.1 1).trans rfl; have g2 : w4.cell? ⟨g, 2, none⟩ = some (.slice a2_ q3.length b2_) := (blk_cell D4.out.1 2).trans rfl; have g3 : w4.cell? ⟨g, 3, none⟩ = some (.bool q4) := (blk_cell D4.out.1 3).trans rfl; have g4 : w4.cell? ⟨g, 4, none⟩ = some (.int .i64 q5) := (blk_cell D4.out.1 4).trans rfl; clear h4 hd4 hg4 BR3 BD3 K3))
            have hs := res_dev D4.out BR4.out GR.out
            refine bodyPost_ret (results_ct rfl _ _ gr 30 #[.int .u32 q1, .slice a1_ q2.length b1_, .slice a2_ q3.length b2_, .bool q4, .int .i64 q5] (0, 0) _ rfl hs.1 Tryd.underlying30 rfl (by kernel_rfl)) rfl ?_
            exact ⟨_, _, rfl, hs.2⟩
          · rw [if_neg h4] at h
            have h4b : decide (16384 ≤ (l0_2.length : Int)) = false := decide_eq_false h4
            replace h4 := Int.lt_of_not_ge h4
            replace h := Option.bind_eq_some_iff.mp h
            obtain ⟨t, ht, h⟩ := h
            have HT := Aside0.mk ht
            clear ht
            split at h
            case isFalse => cases h
            case isTrue h5 =>
            simp only [Option.some.injEq, Prod.mk.injEq] at h
            obtain ⟨rfl, rfl, rfl, rfl, rfl, rfl⟩ := h
            have H5 := Aside0.mk h5
            clear h5
            obtain ⟨wn, hwn⟩ : ∃ wn, q3 ++ [(⟨a1, t⟩ : S60)] = wn := ⟨_, rfl⟩
            rw [hwn]
            have HW := Aside0.mk hwn
            clear hwn
            cases hdn : downOf q4 q5 with
            | true =>
              go_enter Tryd.func6, Tryd.ntmps6
              go_wp2_with (first | ((with_reducible refine gate_dst (N := 3) rfl ?_); refine bx_ (N := 3) (cs := #[.int .u32 a0_0, .slice A0_1 l0_1.length c0_1, .slice A0_2 l0_2.length c0_2, .bool false, .int .i64 a0_4]) (t := 30) ?_; intro gd hgd w1 hx hbx; have BD1 := Aside0.mk hx; have K1 := Aside0.mk hbx; have GD := Aside0.mk (show w.heap.size ≤ gd by omega); obtain ⟨z0, z1, z2, z3, z4⟩ := cl5_ BD1; clear hx hbx hgd) | ((with_reducible refine gate_dst (N := 6) rfl ?_); refine bx_ (N := 6) (cs := #[.int .u32 0, .slice none 0 0, .slice none 0 0, .bool false, .int .i64 0]) (t := 30) ?_; intro gr hgr w2 hx hbx; have BR2 := Aside0.mk hx; have BD2 := Aside0.mk (blk_below BD1.out hbx); have K2 := Aside0.mk (below_step K1.out hbx); have NE := Aside0.mk (show gr ≠ gd by rw [hgr]; exact fun e => Nat.lt_irrefl _ (e ▸ blk_lt BD1.out)); have GR := Aside0.mk (show w.heap.size ≤ gr by rw [hgr]; exact K1.out.size); clear z0 z1 z2 z3 z4; obtain ⟨z0, z1, z2, z3, z4⟩ := cl5_ BD2; clear hx hbx hgr K1 BD1) | (go_at_call 14; refine (dev_Check.calls k a0_0 A0_1 c0_1 l0_1 A0_2 c0_2 l0_2 false a0_4 _ _ (Kd.C_below HR1.out K2.out) HC1.out (Kd.C_below HR2.out K2.out) HC2.out HY.out).mono ?_; rintro e w3 ⟨rfl, h3⟩; have BR3 := Aside0.mk (blk_below BR2.out h3); have BD3 := Aside0.mk (blk_below BD2.out h3); have K3 := Aside0.mk (below_step K2.out h3); clear z0 z1 z2 z3 z4; obtain ⟨z0, z1, z2, z3, z4⟩ := cl5_ BD3; obtain ⟨r0, r1, r2, r3, r4⟩ := cl5_ BR3; obtain ⟨rf0, rf1, rf2, rf3, rf4⟩ := fz5_ BR3; clear h3 BR2 BD2 K2) | (go_at_call 15; refine (open_calls a0_0 A0_1 c0_1 l0_1 A0_2 c0_2 l0_2 false a0_4 q1 q2 q3 q4 q5 w _ K3.out (Kd.C_below HR1.out K3.out) HC1.out (Kd.C_below HR2.out K3.out) HC2.out HO.out).mono ?_; rintro e w4 ⟨g, a1_, b1_, a2_, b2_, rfl, hg4, h4, hd4⟩; have D4 := Aside0.mk hd4; have BR4 := Aside0.mk (blk_below BR3.out h4); have BD4 := Aside0.mk (blk_below BD3.out h4); have NG := Aside0.mk (show g ≠ gr from fun e => by have := blk_lt BR3.out; omega); have ND := Aside0.mk (show g ≠ gd from fun e => by have := blk_lt BD3.out; omega); clear z0 z1 z2 z3 z4 r0 r1 r2 r3 r4 rf0 rf1 rf2 rf3 rf4; obtain ⟨z0, z1, z2, z3, z4⟩ := cl5_ BD4; obtain ⟨r0, r1, r2, r3, r4⟩ := cl5_ BR4; obtain ⟨rf0, rf1, rf2, rf3, rf4⟩ := fz5_ BR4; have g0 : w4.cell? ⟨g, 0, none⟩ = some (.int .u32 q1) := (blk_cell D4.out.1 0).trans rfl; have g1 : w4.cell? ⟨g, 1, none⟩ = some (.slice a1_ q2.length b1_) := (blk_cell D4.out.1 1).trans rfl; have g2 : w4.cell? ⟨g, 2, none⟩ = some (.slice a2_ q3.length b2_) := (blk_cell D4.out.1 2).trans rfl; have g3 : w4.cell? ⟨g, 3, none⟩ = some (.bool q4) := (blk_cell D4.out.1 3).trans rfl; have g4 : w4.cell? ⟨g, 4, none⟩ = some (.int .i64 q5) := (blk_cell D4.out.1 4).trans rfl; clear h4 hd4 hg4 BR3 BD3 K3))
              have hDd := Aside0.mk D4.out.drew
              have hRd := Aside0.mk (blk_drew BR4.out)
              refine start_ (n := 16) (S := fun w' => w'.cell? ⟨g, 2, none⟩ = some (.slice a2_ q3.length b2_) ∧ w'.cell? ⟨g, 0, none⟩ = some (.int .u32 q1)) (ds := [15]) #[false, false, false, false, false, false, false, false, false, false, false, false, false, false, false, false] (by kernel_rfl) rfl rfl ⟨g2, g0⟩ (fun hHeld => ?_)
              clear g0 g1 g2 g3 g4 r0 r1 r2 r3 r4 rf0 rf1 rf2 rf3 rf4 z0 z1 z2 z3 z4 D4 BR4 BD4
              generalize w4.drew = wd at hDd hRd hHeld ⊢
              refine pu_ 0 43 ?_
              refine pu_ 1 44 ?_
              refine pu_ 2 45 ?_
              refine pu_ 3 46 ?_
              refine pu_ 4 47 ?_
              refine tk2_ 5 48 ?_
              refine pu_ 6 49 ?_
              refine pu_ 7 50 ?_
              refine on_ 8 51 (fun K hK => ?_)
              refine goes_ Tryd.func16 (by kernel_rfl) rfl #[.string a2] (by rfl) rfl rfl (by (try simp only [List.map_toArray, List.map_cons, List.map_nil]); first | done | rfl) ?_
              with_reducible refine (dev_cut.calls a2 t _ HT.out).mono ?_
              rintro e w' ⟨rfl, ⟨nd, hnd⟩⟩
              have hDe := Aside0.mk (hDd.out.below (w' := w') (by rw [hnd]; exact pw_below_drewN (Below.refl _ _) nd))
              have hRe := Aside0.mk (show w'.heap[gr]? = some (.cells #[.int .u32 0, .slice none 0 0, .slice none 0 0, .bool false, .int .i64 0] 30 (0, 0)) by rw [hnd]; exact blk_drewN hRd.out nd)
              clear hnd hDd hRd
              refine ⟨_, rfl, ?_⟩
              refine hK.out _ _ ⟨(blk_cell hDe.out.1 2).trans rfl, (blk_cell hDe.out.1 0).trans rfl⟩ (fun hHeld => ?_)
              clear hK K
              refine nm_ 51 ?_
              refine pu_ 9 52 ?_
              refine on_ 10 53 (fun K hK => ?_)
              refine value_ (w1 := ?_) (v := ?_) (by rfl) rfl ?_ ?_
              rotate_left 2
              · go_simp
                constructor
                · rfl
                · rfl
              refine hK.out _ _ ⟨(blk_cell (blk_alloc hDe.out.1 _) 2).trans rfl, (blk_cell (blk_alloc hDe.out.1 _) 0).trans rfl⟩ (fun hHeld => ?_)
              clear hK K
              refine nm_ 53 ?_
              refine on_ 11 54 (fun K hK => ?_)
              refine Kd.R_append_step k60 (w0 := w) w.heap.size (by rfl) (.tmp 48) (.tmp 53) 28 60 (.agg #[(.int .u32 0), (.string ⟨#[]⟩)]) 24 rfl Tryd.underlying28 info_Block rfl (by decide) (by omega) (.slice a2_ q3.length b2_) q3 (⟨a1, t⟩ : S60) [.int .u32 a1, .string t] (fun k_ => some k_ ≠ (.slice a1_ q2.length b1_ : Value).ownBlock) (fun _ => False) rfl rfl ?aP (fun _ hk => hk.elim) ?aF ?aO ?aB ?aS ?aL ?_
              (case aP => exact k60_mkM _ _ _ (⟨a1, t⟩ : S60))
              (case aB => exact hDe.out.2.2.2.2)
              (case aF => exact (fun k_ hk => Kd.fresh' (Kd.R_lt hDe.out.2.2.1) k_ hk))
              (case aO => exact hDe.out.2.2.2.1)
              (case aS => exact hDe.out.2.2.2.2.size)
              (case aL => have := H5.out; omega)
              intro v7 w7 ho hb hg hat
              rw [HW.out] at ho
              obtain ⟨A7, c7, rfl⟩ := Kd.R_slice ho
              have B7 := Aside0.mk (blk_grown hDe.out.1 hg (own_ne hDe.out.2.2.2.1 hDe.out.1 (by decide)))
              have R7 := Aside0.mk (blk_grown hRe.out hg (own_ne hDe.out.2.2.2.1 hRe.out (by decide)))
              have D8 := Aside0.mk (hDe.out.wait hg hat hb ho)
              clear hDe hRe ho hb hg hat
              refine hK.out _ _ ⟨(blk_cell B7.out 2).trans rfl, (blk_cell B7.out 0).trans rfl⟩ (fun hHeld => ?_)
              clear hK K
              refine nm_ 54 ?_
              refine pu_ 12 55 ?_
              refine pu_ 13 56 ?_
              refine pu_ 14 57 ?_
              have p2 : w7.cell? ⟨g, 2, none⟩ = some (.slice a2_ q3.length b2_) := (blk_cell B7.out 2).trans rfl
              have pf2 : w7.frozen? ⟨g, 2, none⟩ = false := blk_frozen B7.out 2
              refine last_ (i := 15) (N := none) #[true, true, true, true, true, true, true, true, true, true, true, true, true, true, true, true] rfl rfl (by kernel_rfl) (by decide) (fun K hK => ?_)
              refine skip_ (w1 := ?_) (by rfl) rfl ?_ ?_
              rotate_left
              · go_simp
                rfl
              refine hK.out _ _ ?_
              clear hK K
              refine done_ (by kernel_rfl) ?_
              have R8 := Aside0.mk (show (w7.setCell ⟨g, 2, none⟩ (.slice A7 wn.length c7)).heap[gr]? = _ from (Below.heap_setCell w7 ⟨g, 2, none⟩ _ gr (fun e => NG.out e.symm)).trans R7.out)
              generalize w7.setCell ⟨g, 2, none⟩ (.slice A7 wn.length c7) = w8 at D8 R8 ⊢
              clear p2 pf2 B7 R7 hHeld
              have HD := Aside0.mk hdn
              clear hdn
              go_wp2_with (go_at_call 17; refine (burn_at true D8.out.1 HD.out).mono ?_; rintro e w9 ⟨rfl, hs9⟩; have D9 := Aside0.mk (D8.out.step hs9); have R9 := Aside0.mk ((hs9.2.1.2 gr (blk_lt R8.out) (fun e => NG.out e.symm) (by simp)).trans R8.out); have g0 : w9.cell? ⟨g, 0, none⟩ = some (.int .u32 q1) := (blk_cell D9.out.1 0).trans rfl; have g1 : w9.cell? ⟨g, 1, none⟩ = some (.slice a1_ q2.length b1_) := (blk_cell D9.out.1 1).trans rfl; have g2 : w9.cell? ⟨g, 2, none⟩ = some (.slice A7 wn.length c7) := (blk_cell D9.out.1 2).trans rfl; have g3 : w9.cell? ⟨g, 3, none⟩ = some (.bool true) := (blk_cell D9.out.1 3).trans rfl; have g4 : w9.cell? ⟨g, 4, none⟩ = some (.int .i64 (fuseOf q5)) := (blk_cell D9.out.1 4).trans rfl; have r0 : w9.cell? ⟨gr, 0, none⟩ = some (.int .u32 0) := (blk_cell R9.out 0).trans rfl; have r1 : w9.cell? ⟨gr, 1, none⟩ = some (.slice none 0 0) := (blk_cell R9.out 1).trans rfl; have r2 : w9.cell? ⟨gr, 2, none⟩ = some (.slice none 0 0) := (blk_cell R9.out 2).trans rfl; have r3 : w9.cell? ⟨gr, 3, none⟩ = some (.bool false) := (blk_cell R9.out 3).trans rfl; have r4 : w9.cell? ⟨gr, 4, none⟩ = some (.int .i64 0) := (blk_cell R9.out 4).trans rfl; have rf0 : w9.frozen? ⟨gr, 0, none⟩ = false := blk_frozen R9.out 0; have rf1 : w9.frozen? ⟨gr, 1, none⟩ = false := blk_frozen R9.out 1; have rf2 : w9.frozen? ⟨gr, 2, none⟩ = false := blk_frozen R9.out 2; have rf3 : w9.frozen? ⟨gr, 3, none⟩ = false := blk_frozen R9.out 3; have rf4 : w9.frozen? ⟨gr, 4, none⟩ = false := blk_frozen R9.out 4; clear hs9 D8 R8)
              
              have hs := res_dev D9.out R9.out GR.out
              refine bodyPost_ret (results_ct rfl _ _ gr 30 #[.int .u32 q1, .slice a1_ q2.length b1_, .slice A7 wn.length c7, .bool true, .int .i64 (fuseOf q5)] (0, 0) _ rfl hs.1 Tryd.underlying30 rfl (by kernel_rfl)) rfl ?_
              exact ⟨_, _, rfl, hs.2⟩
            | false =>
              go_enter Tryd.func6, Tryd.ntmps6
              go_wp2_with (first | ((with_reducible refine gate_dst (N := 3) rfl ?_); refine bx_ (N := 3) (cs := #[.int .u32 a0_0, .slice A0_1 l0_1.length c0_1, .slice A0_2 l0_2.length c0_2, .bool false, .int .i64 a0_4]) (t := 30) ?_; intro gd hgd w1 hx hbx; have BD1 := Aside0.mk hx; have K1 := Aside0.mk hbx; have GD := Aside0.mk (show w.heap.size ≤ gd by omega); obtain ⟨z0, z1, z2, z3, z4⟩ := cl5_ BD1; clear hx hbx hgd) | ((with_reducible refine gate_dst (N := 6) rfl ?_); refine bx_ (N := 6) (cs := #[.int .u32 0, .slice none 0 0, .slice none 0 0, .bool false, .int .i64 0]) (t := 30) ?_; intro gr hgr w2 hx hbx; have BR2 := Aside0.mk hx; have BD2 := Aside0.mk (blk_below BD1.out hbx); have K2 := Aside0.mk (below_step K1.out hbx); have NE := Aside0.mk (show gr ≠ gd by rw [hgr]; exact fun e => Nat.lt_irrefl _ (e ▸ blk_lt BD1.out)); have GR := Aside0.mk (show w.heap.size ≤ gr by rw [hgr]; exact K1.out.size); clear z0 z1 z2 z3 z4; obtain ⟨z0, z1, z2, z3, z4⟩ := cl5_ BD2; clear hx hbx hgr K1 BD1) | (go_at_call 14; refine (dev_Check.calls k a0_0 A0_1 c0_1 l0_1 A0_2 c0_2 l0_2 false a0_4 _ _ (Kd.C_below HR1.out K2.out) HC1.out (Kd.C_below HR2.out K2.out) HC2.out HY.out).mono ?_; rintro e w3 ⟨rfl, h3⟩; have BR3 := Aside0.mk (blk_below BR2.out h3); have BD3 := Aside0.mk (blk_below BD2.out h3); have K3 := Aside0.mk (below_step K2.out h3); clear z0 z1 z2 z3 z4; obtain ⟨z0, z1, z2, z3, z4⟩ := cl5_ BD3; obtain ⟨r0, r1, r2, r3, r4⟩ := cl5_ BR3; obtain ⟨rf0, rf1, rf2, rf3, rf4⟩ := fz5_ BR3; clear h3 BR2 BD2 K2) | (go_at_call 15; refine (open_calls a0_0 A0_1 c0_1 l0_1 A0_2 c0_2 l0_2 false a0_4 q1 q2 q3 q4 q5 w _ K3.out (Kd.C_below HR1.out K3.out) HC1.out (Kd.C_below HR2.out K3.out) HC2.out HO.out).mono ?_; rintro e w4 ⟨g, a1_, b1_, a2_, b2_, rfl, hg4, h4, hd4⟩; have D4 := Aside0.mk hd4; have BR4 := Aside0.mk (blk_below BR3.out h4); have BD4 := Aside0.mk (blk_below BD3.out h4); have NG := Aside0.mk (show g ≠ gr from fun e => by have := blk_lt BR3.out; omega); have ND := Aside0.mk (show g ≠ gd from fun e => by have := blk_lt BD3.out; omega); clear z0 z1 z2 z3 z4 r0 r1 r2 r3 r4 rf0 rf1 rf2 rf3 rf4; obtain ⟨z0, z1, z2, z3, z4⟩ := cl5_ BD4; obtain ⟨r0, r1, r2, r3, r4⟩ := cl5_ BR4; obtain ⟨rf0, rf1, rf2, rf3, rf4⟩ := fz5_ BR4; have g0 : w4.cell? ⟨g, 0, none⟩ = some (.int .u32 q1) := (blk_cell D4.out.1 0).trans rfl; have g1 : w4.cell? ⟨g, 1, none⟩ = some (.slice a1_ q2.length b1_) := (blk_cell D4.out.1 1).trans rfl; have g2 : w4.cell? ⟨g, 2, none⟩ = some (.slice a2_ q3.length b2_) := (blk_cell D4.out.1 2).trans rfl; have g3 : w4.cell? ⟨g, 3, none⟩ = some (.bool q4) := (blk_cell D4.out.1 3).trans rfl; have g4 : w4.cell? ⟨g, 4, none⟩ = some (.int .i64 q5) := (blk_cell D4.out.1 4).trans rfl; clear h4 hd4 hg4 BR3 BD3 K3))
              have hDd := Aside0.mk D4.out.drew
              have hRd := Aside0.mk (blk_drew BR4.out)
              refine start_ (n := 16) (S := fun w' => w'.cell? ⟨g, 2, none⟩ = some (.slice a2_ q3.length b2_) ∧ w'.cell? ⟨g, 0, none⟩ = some (.int .u32 q1)) (ds := [15]) #[false, false, false, false, false, false, false, false, false, false, false, false, false, false, false, false] (by kernel_rfl) rfl rfl ⟨g2, g0⟩ (fun hHeld => ?_)
              clear g0 g1 g2 g3 g4 r0 r1 r2 r3 r4 rf0 rf1 rf2 rf3 rf4 z0 z1 z2 z3 z4 D4 BR4 BD4
              generalize w4.drew = wd at hDd hRd hHeld ⊢
              refine pu_ 0 43 ?_
              refine pu_ 1 44 ?_
              refine pu_ 2 45 ?_
              refine pu_ 3 46 ?_
              refine pu_ 4 47 ?_
              refine tk2_ 5 48 ?_
              refine pu_ 6 49 ?_
              refine pu_ 7 50 ?_
              refine on_ 8 51 (fun K hK => ?_)
              refine goes_ Tryd.func16 (by kernel_rfl) rfl #[.string a2] (by rfl) rfl rfl (by (try simp only [List.map_toArray, List.map_cons, List.map_nil]); first | done | rfl) ?_
              with_reducible refine (dev_cut.calls a2 t _ HT.out).mono ?_
              rintro e w' ⟨rfl, ⟨nd, hnd⟩⟩
              have hDe := Aside0.mk (hDd.out.below (w' := w') (by rw [hnd]; exact pw_below_drewN (Below.refl _ _) nd))
              have hRe := Aside0.mk (show w'.heap[gr]? = some (.cells #[.int .u32 0, .slice none 0 0, .slice none 0 0, .bool false, .int .i64 0] 30 (0, 0)) by rw [hnd]; exact blk_drewN hRd.out nd)
              clear hnd hDd hRd
              refine ⟨_, rfl, ?_⟩
              refine hK.out _ _ ⟨(blk_cell hDe.out.1 2).trans rfl, (blk_cell hDe.out.1 0).trans rfl⟩ (fun hHeld => ?_)
              clear hK K
              refine nm_ 51 ?_
              refine pu_ 9 52 ?_
              refine on_ 10 53 (fun K hK => ?_)
              refine value_ (w1 := ?_) (v := ?_) (by rfl) rfl ?_ ?_
              rotate_left 2
              · go_simp
                constructor
                · rfl
                · rfl
              refine hK.out _ _ ⟨(blk_cell (blk_alloc hDe.out.1 _) 2).trans rfl, (blk_cell (blk_alloc hDe.out.1 _) 0).trans rfl⟩ (fun hHeld => ?_)
              clear hK K
              refine nm_ 53 ?_
              refine on_ 11 54 (fun K hK => ?_)
              refine Kd.R_append_step k60 (w0 := w) w.heap.size (by rfl) (.tmp 48) (.tmp 53) 28 60 (.agg #[(.int .u32 0), (.string ⟨#[]⟩)]) 24 rfl Tryd.underlying28 info_Block rfl (by decide) (by omega) (.slice a2_ q3.length b2_) q3 (⟨a1, t⟩ : S60) [.int .u32 a1, .string t] (fun k_ => some k_ ≠ (.slice a1_ q2.length b1_ : Value).ownBlock) (fun _ => False) rfl rfl ?aP (fun _ hk => hk.elim) ?aF ?aO ?aB ?aS ?aL ?_
              (case aP => exact k60_mkM _ _ _ (⟨a1, t⟩ : S60))
              (case aB => exact hDe.out.2.2.2.2)
              (case aF => exact (fun k_ hk => Kd.fresh' (Kd.R_lt hDe.out.2.2.1) k_ hk))
              (case aO => exact hDe.out.2.2.2.1)
              (case aS => exact hDe.out.2.2.2.2.size)
              (case aL => have := H5.out; omega)
              intro v7 w7 ho hb hg hat
              rw [HW.out] at ho
              obtain ⟨A7, c7, rfl⟩ := Kd.R_slice ho
              have B7 := Aside0.mk (blk_grown hDe.out.1 hg (own_ne hDe.out.2.2.2.1 hDe.out.1 (by decide)))
              have R7 := Aside0.mk (blk_grown hRe.out hg (own_ne hDe.out.2.2.2.1 hRe.out (by decide)))
              have D8 := Aside0.mk (hDe.out.wait hg hat hb ho)
              clear hDe hRe ho hb hg hat
              refine hK.out _ _ ⟨(blk_cell B7.out 2).trans rfl, (blk_cell B7.out 0).trans rfl⟩ (fun hHeld => ?_)
              clear hK K
              refine nm_ 54 ?_
              refine pu_ 12 55 ?_
              refine pu_ 13 56 ?_
              refine pu_ 14 57 ?_
              have p2 : w7.cell? ⟨g, 2, none⟩ = some (.slice a2_ q3.length b2_) := (blk_cell B7.out 2).trans rfl
              have pf2 : w7.frozen? ⟨g, 2, none⟩ = false := blk_frozen B7.out 2
              refine last_ (i := 15) (N := none) #[true, true, true, true, true, true, true, true, true, true, true, true, true, true, true, true] rfl rfl (by kernel_rfl) (by decide) (fun K hK => ?_)
              refine skip_ (w1 := ?_) (by rfl) rfl ?_ ?_
              rotate_left
              · go_simp
                rfl
              refine hK.out _ _ ?_
              clear hK K
              refine done_ (by kernel_rfl) ?_
              have R8 := Aside0.mk (show (w7.setCell ⟨g, 2, none⟩ (.slice A7 wn.length c7)).heap[gr]? = _ from (Below.heap_setCell w7 ⟨g, 2, none⟩ _ gr (fun e => NG.out e.symm)).trans R7.out)
              generalize w7.setCell ⟨g, 2, none⟩ (.slice A7 wn.length c7) = w8 at D8 R8 ⊢
              clear p2 pf2 B7 R7 hHeld
              have HD := Aside0.mk hdn
              clear hdn
              go_wp2_with (go_at_call 17; refine (burn_at false D8.out.1 HD.out).mono ?_; rintro e w9 ⟨rfl, hs9⟩; have D9 := Aside0.mk (D8.out.step hs9); have R9 := Aside0.mk ((hs9.2.1.2 gr (blk_lt R8.out) (fun e => NG.out e.symm) (by simp)).trans R8.out); have g0 : w9.cell? ⟨g, 0, none⟩ = some (.int .u32 q1) := (blk_cell D9.out.1 0).trans rfl; have g1 : w9.cell? ⟨g, 1, none⟩ = some (.slice a1_ q2.length b1_) := (blk_cell D9.out.1 1).trans rfl; have g2 : w9.cell? ⟨g, 2, none⟩ = some (.slice A7 wn.length c7) := (blk_cell D9.out.1 2).trans rfl; have g3 : w9.cell? ⟨g, 3, none⟩ = some (.bool false) := (blk_cell D9.out.1 3).trans rfl; have g4 : w9.cell? ⟨g, 4, none⟩ = some (.int .i64 (fuseOf q5)) := (blk_cell D9.out.1 4).trans rfl; have r0 : w9.cell? ⟨gr, 0, none⟩ = some (.int .u32 0) := (blk_cell R9.out 0).trans rfl; have r1 : w9.cell? ⟨gr, 1, none⟩ = some (.slice none 0 0) := (blk_cell R9.out 1).trans rfl; have r2 : w9.cell? ⟨gr, 2, none⟩ = some (.slice none 0 0) := (blk_cell R9.out 2).trans rfl; have r3 : w9.cell? ⟨gr, 3, none⟩ = some (.bool false) := (blk_cell R9.out 3).trans rfl; have r4 : w9.cell? ⟨gr, 4, none⟩ = some (.int .i64 0) := (blk_cell R9.out 4).trans rfl; have rf0 : w9.frozen? ⟨gr, 0, none⟩ = false := blk_frozen R9.out 0; have rf1 : w9.frozen? ⟨gr, 1, none⟩ = false := blk_frozen R9.out 1; have rf2 : w9.frozen? ⟨gr, 2, none⟩ = false := blk_frozen R9.out 2; have rf3 : w9.frozen? ⟨gr, 3, none⟩ = false := blk_frozen R9.out 3; have rf4 : w9.frozen? ⟨gr, 4, none⟩ = false := blk_frozen R9.out 4; clear hs9 D8 R8)
              
              have hs := res_dev D9.out R9.out GR.out
              refine bodyPost_ret (results_ct rfl _ _ gr 30 #[.int .u32 q1, .slice a1_ q2.length b1_, .slice A7 wn.length c7, .bool false, .int .i64 (fuseOf q5)] (0, 0) _ rfl hs.1 Tryd.underlying30 rfl (by kernel_rfl)) rfl ?_
              exact ⟨_, _, rfl, hs.2⟩
  · rw [if_neg h0] at h
    cases h
    have h0b : (r6 == 0) = false := beq_eq_false_iff_ne.mpr h0
    have h0c : (r6 != 0) = true := bne_iff_ne.mpr h0
    go_enter Tryd.func6, Tryd.ntmps6
    go_wp2_with (first | ((with_reducible refine gate_dst (N := 3) rfl ?_); refine bx_ (N := 3) (cs := #[.int .u32 a0_0, .slice A0_1 l0_1.length c0_1, .slice A0_2 l0_2.length c0_2, .bool a0_3, .int .i64 a0_4]) (t := 30) ?_; intro gd hgd w1 hx hbx; have BD1 := Aside0.mk hx; have K1 := Aside0.mk hbx; have GD := Aside0.mk (show w.heap.size ≤ gd by omega); obtain ⟨z0, z1, z2, z3, z4⟩ := cl5_ BD1; clear hx hbx hgd) | ((with_reducible refine gate_dst (N := 6) rfl ?_); refine bx_ (N := 6) (cs := #[.int .u32 0, .slice none 0 0, .slice none 0 0, .bool false, .int .i64 0]) (t := 30) ?_; intro gr hgr w2 hx hbx; have BR2 := Aside0.mk hx; have BD2 := Aside0.mk (blk_below BD1.out hbx); have K2 := Aside0.mk (below_step K1.out hbx); have NE := Aside0.mk (show gr ≠ gd by rw [hgr]; exact fun e => Nat.lt_irrefl _ (e ▸ blk_lt BD1.out)); have GR := Aside0.mk (show w.heap.size ≤ gr by rw [hgr]; exact K1.out.size); clear z0 z1 z2 z3 z4; obtain ⟨z0, z1, z2, z3, z4⟩ := cl5_ BD2; clear hx hbx hgr K1 BD1) | (go_at_call 14; refine (dev_Check.calls k a0_0 A0_1 c0_1 l0_1 A0_2 c0_2 l0_2 a0_3 a0_4 _ _ (Kd.C_below HR1.out K2.out) HC1.out (Kd.C_below HR2.out K2.out) HC2.out HY.out).mono ?_; rintro e w3 ⟨rfl, h3⟩; have BR3 := Aside0.mk (blk_below BR2.out h3); have BD3 := Aside0.mk (blk_below BD2.out h3); have K3 := Aside0.mk (below_step K2.out h3); clear z0 z1 z2 z3 z4; obtain ⟨z0, z1, z2, z3, z4⟩ := cl5_ BD3; obtain ⟨r0, r1, r2, r3, r4⟩ := cl5_ BR3; obtain ⟨rf0, rf1, rf2, rf3, rf4⟩ := fz5_ BR3; clear h3 BR2 BD2 K2))
    have hs := res_zero K3.out BR3.out GR.out
    refine bodyPost_ret (results_ct rfl _ _ gr 30 #[.int .u32 0, .slice none 0 0, .slice none 0 0, .bool false, .int .i64 0] (0, 0) _ rfl hs.1 Tryd.underlying30 rfl (by kernel_rfl)) rfl ?_
    exact ⟨_, _, rfl, Kd.R_nil _ _ _ _ _, Kd.R_nil _ _ _ _ _, hs.2⟩
end Go.Proofs.YthbljhmjppjcjaaDoor.Z
end

section
/- dev.Flush: printed by gendev.py. -/
namespace Go.Proofs.YthbljhmjppjcjaaDoor.Z
open Go.RowKit Go.Proofs.YthbljhmjppjcjaaDoorW.PrintWords Go.Proofs.YthbljhmjppjcjaaDoorW.PrintLast Go.Proofs.YthbljhmjppjcjaaDoorW.PrintMore
set_option linter.unusedVariables false
set_option linter.unusedSimpArgs false
attribute [local go_sem ↓] Go.wp_at_zero Go.wp_at_succ
def putsF (k : Nat) : List Blk → List Blk → Option (List Blk)
  | bl, [] => some bl
  | bl, x :: wl => (putF k bl x).bind fun b => putsF k b wl
theorem putsF_mono : ∀ a1 a0 k, LeO (putsF k a0 a1) (putsF (k + 1) a0 a1) := by
  intro a1
  induction a1 with
  | nil => exact fun _ _ => LeO.refl _
  | cons x wl ih => exact fun a0 k => LeO.bind (putF_mono _ _ _) (fun _ => ih _ _)
theorem Drv.empty {w0 w : World} {g : Nat} {s : Int} {vB vW : Value} {bl wl : List Blk} {d : Bool} {f n : Int} (h : Drv w0 w g s vB vW bl wl d f n) : Drv w0 (w.setCell ⟨g, 2, none⟩ (.slice none 0 0)) g s vB (.slice none 0 0) bl [] d f n :=
  ⟨blk_set h.1 2 _, h.2.1, Kd.R_mono (Kd.R_far (p := ⟨g, 2, none⟩) (Kd.R_types h.2.2.1 h.1 (by decide)) (fun _ hk => hk.2) _) (fun _ _ e => by cases e), Kd.R_nil _ _ _ _ _, h.2.2.2.2.setCell (p := ⟨g, 2, none⟩) h.2.1 _⟩
def dev_Flush.f (k : Nat) (a0_0 : Int) (l0_1 : List (S60)) (l0_2 : List (S60)) (a0_3 : Bool) (a0_4 : Int) : Option (Int × (List (S60)) × (List (S60)) × Bool × Int × Int) :=
  (dev_Check.f k a0_0 l0_1 l0_2 a0_3 a0_4).bind fun y => if y = 0 then ((dev_Own.f a0_0 l0_1 l0_2 a0_3 a0_4).bind fun q => if a0_3 = true then some (q.1, q.2.1, q.2.2.1, q.2.2.2.1, q.2.2.2.2, 17) else if downOf q.2.2.2.1 q.2.2.2.2 = true then some (q.1, q.2.1, q.2.2.1, true, fuseOf q.2.2.2.2, 17) else (putsF k q.2.1 q.2.2.1).bind fun b => some (q.1, b, ([] : List (S60)), false, fuseOf q.2.2.2.2, 0)) else some (0, ([] : List (S60)), ([] : List (S60)), false, 0, y)
theorem dev_Flush.mono : ∀ a0 a1 a2 a3 a4 k, LeO (dev_Flush.f k a0 a1 a2 a3 a4) (dev_Flush.f (k + 1) a0 a1 a2 a3 a4) := by
  intro a0 a1 a2 a3 a4 k
  unfold dev_Flush.f
  exact LeO.bind (dev_Check.mono _ _ _ _ _ _) (fun _ => LeO.ite (LeO.bind (LeO.refl _) (fun _ => LeO.ite (LeO.refl _) (LeO.ite (LeO.refl _) (LeO.bind (putsF_mono _ _ _) (fun _ => LeO.refl _))))) (LeO.refl _))
set_option maxRecDepth 100000 in
set_option maxHeartbeats 6400000 in
theorem dev_Flush.calls (k : Nat) (a0_0 : Int) (A0_1 : Option Addr) (c0_1 : Nat) (l0_1 : List (S60)) (A0_2 : Option Addr) (c0_2 : Nat) (l0_2 : List (S60)) (a0_3 : Bool) (a0_4 : Int) (r1 : Int) (r2 : List (S60)) (r3 : List (S60)) (r4 : Bool) (r5 : Int) (r6 : Int) (w : World) (hr0_1 : Kd.C k60 w A0_1 l0_1.length l0_1) (hc0_1 : l0_1.length ≤ c0_1) (hr0_2 : Kd.C k60 w A0_2 l0_2.length l0_2) (hc0_2 : l0_2.length ≤ c0_2) (h : dev_Flush.f k a0_0 l0_1 l0_2 a0_3 a0_4 = some (r1, r2, r3, r4, r5, r6)) :
    Calls Tryd.prog 7 #[.agg #[.int .u32 a0_0, .slice A0_1 l0_1.length c0_1, .slice A0_2 l0_2.length c0_2, .bool a0_3, .int .i64 a0_4]] w fun e w' => ∃ v1_ v2_ : Value, e = .returned (.tuple #[.agg #[.int .u32 r1, v1_, v2_, .bool r4, .int .i64 r5], .int .i64 r6]) ∧ Kd.R k60 60 w' w.heap.size (fun k_ => some k_ ≠ (v2_ : Value).ownBlock) v1_ r2 ∧ Kd.R k60 60 w' w.heap.size (fun k_ => some k_ ≠ (v1_ : Value).ownBlock) v2_ r3 ∧ Below w.heap.size w w' := by
  have HR1 := Aside0.mk hr0_1
  have HR2 := Aside0.mk hr0_2
  have HC1 := Aside0.mk hc0_1
  have HC2 := Aside0.mk hc0_2
  clear hr0_1 hr0_2 hc0_1 hc0_2
  unfold dev_Flush.f at h
  replace h := Option.bind_eq_some_iff.mp h
  obtain ⟨y, hy, h⟩ := h
  have HY := Aside0.mk hy
  clear hy
  by_cases h0 : y = 0
  · rw [if_pos h0] at h
    subst h0
    replace h := Option.bind_eq_some_iff.mp h
    obtain ⟨⟨q1, q2, q3, q4, q5⟩, hq, h⟩ := h
    have HO := Aside0.mk hq
    clear hq
    replace h : (if a0_3 = true then some (q1, q2, q3, q4, q5, 17) else if downOf q4 q5 = true then some (q1, q2, q3, true, fuseOf q5, 17) else (putsF k q2 q3).bind fun b => some (q1, b, ([] : List (S60)), false, fuseOf q5, 0)) = some (r1, r2, r3, r4, r5, r6) := h
    by_cases h1 : a0_3 = true
    · rw [if_pos h1] at h
      subst h1
      simp only [Option.some.injEq, Prod.mk.injEq] at h
      obtain ⟨rfl, rfl, rfl, rfl, rfl, rfl⟩ := h
      go_enter Tryd.func7, Tryd.ntmps7
      go_wp2_with (first | ((with_reducible refine gate_dst (N := 1) rfl ?_); refine bx_ (N := 1) (cs := #[.int .u32 a0_0, .slice A0_1 l0_1.length c0_1, .slice A0_2 l0_2.length c0_2, .bool true, .int .i64 a0_4]) (t := 30) ?_; intro gd hgd w1 hx hbx; have BD1 := Aside0.mk hx; have K1 := Aside0.mk hbx; have GD := Aside0.mk (show w.heap.size ≤ gd by omega); obtain ⟨z0, z1, z2, z3, z4⟩ := cl5_ BD1; clear hx hbx hgd) | ((with_reducible refine gate_dst (N := 2) rfl ?_); refine bx_ (N := 2) (cs := #[.int .u32 0, .slice none 0 0, .slice none 0 0, .bool false, .int .i64 0]) (t := 30) ?_; intro gr hgr w2 hx hbx; have BR2 := Aside0.mk hx; have BD2 := Aside0.mk (blk_below BD1.out hbx); have K2 := Aside0.mk (below_step K1.out hbx); have NE := Aside0.mk (show gr ≠ gd by rw [hgr]; exact fun e => Nat.lt_irrefl _ (e ▸ blk_lt BD1.out)); have GR := Aside0.mk (show w.heap.size ≤ gr by rw [hgr]; exact K1.out.size); clear z0 z1 z2 z3 z4; obtain ⟨z0, z1, z2, z3, z4⟩ := cl5_ BD2; clear hx hbx hgr K1 BD1) | (go_at_call 14; refine (dev_Check.calls k a0_0 A0_1 c0_1 l0_1 A0_2 c0_2 l0_2 true a0_4 _ _ (Kd.C_below HR1.out K2.out) HC1.out (Kd.C_below HR2.out K2.out) HC2.out HY.out).mono ?_; rintro e w3 ⟨rfl, h3⟩; have BR3 := Aside0.mk (blk_below BR2.out h3); have BD3 := Aside0.mk (blk_below BD2.out h3); have K3 := Aside0.mk (below_step K2.out h3); clear z0 z1 z2 z3 z4; obtain ⟨z0, z1, z2, z3, z4⟩ := cl5_ BD3; obtain ⟨r0, r1, r2, r3, r4⟩ := cl5_ BR3; obtain ⟨rf0, rf1, rf2, rf3, rf4⟩ := fz5_ BR3; clear h3 BR2 BD2 K2) | (go_at_call 15; refine (open_calls a0_0 A0_1 c0_1 l0_1 A0_2 c0_2 l0_2 true a0_4 q1 q2 q3 q4 q5 w _ K3.out (Kd.C_below HR1.out K3.out) HC1.out (Kd.C_below HR2.out K3.out) HC2.out HO.out).mono ?_; rintro e w4 ⟨g, a1_, b1_, a2_, b2_, rfl, hg4, h4, hd4⟩; have D4 := Aside0.mk hd4; have BR4 := Aside0.mk (blk_below BR3.out h4); have BD4 := Aside0.mk (blk_below BD3.out h4); have NG := Aside0.mk (show g ≠ gr from fun e => by have := blk_lt BR3.out; omega); have ND := Aside0.mk (show g ≠ gd from fun e => by have := blk_lt BD3.out; omega); clear z0 z1 z2 z3 z4 r0 r1 r2 r3 r4 rf0 rf1 rf2 rf3 rf4; obtain ⟨z0, z1, z2, z3, z4⟩ := cl5_ BD4; obtain ⟨r0, r1, r2, r3, r4⟩ := cl5_ BR4; obtain ⟨rf0, rf1, rf2, rf3, rf4⟩ := fz5_ BR4; have g0 : w4.cell? ⟨g, 0, none⟩ = some (.int .u32 q1) := (blk_cell D4.out.1 0).trans rfl; have g1 : w4.cell? ⟨g, 1, none⟩ = some (.slice a1_ q2.length b1_) := (blk_cell D4.out.1 1).trans rfl; have g2 : w4.cell? ⟨g, 2, none⟩ = some (.slice a2_ q3.length b2_) := (blk_cell D4.out.1 2).trans rfl; have g3 : w4.cell? ⟨g, 3, none⟩ = some (.bool q4) := (blk_cell D4.out.1 3).trans rfl; have g4 : w4.cell? ⟨g, 4, none⟩ = some (.int .i64 q5) := (blk_cell D4.out.1 4).trans rfl; clear h4 hd4 hg4 BR3 BD3 K3))
      have hs := res_dev D4.out BR4.out GR.out
      refine bodyPost_ret (results_ct rfl _ _ gr 30 #[.int .u32 q1, .slice a1_ q2.length b1_, .slice a2_ q3.length b2_, .bool q4, .int .i64 q5] (0, 0) _ rfl hs.1 Tryd.underlying30 rfl (by kernel_rfl)) rfl ?_
      exact ⟨_, _, rfl, hs.2⟩
    · rw [if_neg h1] at h
      replace h1 := Bool.eq_false_iff.mpr h1
      subst h1
      by_cases hdn : downOf q4 q5 = true
      · rw [if_pos hdn] at h
        simp only [Option.some.injEq, Prod.mk.injEq] at h
        obtain ⟨rfl, rfl, rfl, rfl, rfl, rfl⟩ := h
        have HDN := Aside0.mk hdn
        clear hdn
        go_enter Tryd.func7, Tryd.ntmps7
        go_wp2_with (first | ((with_reducible refine gate_dst (N := 1) rfl ?_); refine bx_ (N := 1) (cs := #[.int .u32 a0_0, .slice A0_1 l0_1.length c0_1, .slice A0_2 l0_2.length c0_2, .bool false, .int .i64 a0_4]) (t := 30) ?_; intro gd hgd w1 hx hbx; have BD1 := Aside0.mk hx; have K1 := Aside0.mk hbx; have GD := Aside0.mk (show w.heap.size ≤ gd by omega); obtain ⟨z0, z1, z2, z3, z4⟩ := cl5_ BD1; clear hx hbx hgd) | ((with_reducible refine gate_dst (N := 2) rfl ?_); refine bx_ (N := 2) (cs := #[.int .u32 0, .slice none 0 0, .slice none 0 0, .bool false, .int .i64 0]) (t := 30) ?_; intro gr hgr w2 hx hbx; have BR2 := Aside0.mk hx; have BD2 := Aside0.mk (blk_below BD1.out hbx); have K2 := Aside0.mk (below_step K1.out hbx); have NE := Aside0.mk (show gr ≠ gd by rw [hgr]; exact fun e => Nat.lt_irrefl _ (e ▸ blk_lt BD1.out)); have GR := Aside0.mk (show w.heap.size ≤ gr by rw [hgr]; exact K1.out.size); clear z0 z1 z2 z3 z4; obtain ⟨z0, z1, z2, z3, z4⟩ := cl5_ BD2; clear hx hbx hgr K1 BD1) | (go_at_call 14; refine (dev_Check.calls k a0_0 A0_1 c0_1 l0_1 A0_2 c0_2 l0_2 false a0_4 _ _ (Kd.C_below HR1.out K2.out) HC1.out (Kd.C_below HR2.out K2.out) HC2.out HY.out).mono ?_; rintro e w3 ⟨rfl, h3⟩; have BR3 := Aside0.mk (blk_below BR2.out h3); have BD3 := Aside0.mk (blk_below BD2.out h3); have K3 := Aside0.mk (below_step K2.out h3); clear z0 z1 z2 z3 z4; obtain ⟨z0, z1, z2, z3, z4⟩ := cl5_ BD3; obtain ⟨r0, r1, r2, r3, r4⟩ := cl5_ BR3; obtain ⟨rf0, rf1, rf2, rf3, rf4⟩ := fz5_ BR3; clear h3 BR2 BD2 K2) | (go_at_call 15; refine (open_calls a0_0 A0_1 c0_1 l0_1 A0_2 c0_2 l0_2 false a0_4 q1 q2 q3 q4 q5 w _ K3.out (Kd.C_below HR1.out K3.out) HC1.out (Kd.C_below HR2.out K3.out) HC2.out HO.out).mono ?_; rintro e w4 ⟨g, a1_, b1_, a2_, b2_, rfl, hg4, h4, hd4⟩; have D4 := Aside0.mk hd4; have BR4 := Aside0.mk (blk_below BR3.out h4); have BD4 := Aside0.mk (blk_below BD3.out h4); have NG := Aside0.mk (show g ≠ gr from fun e => by have := blk_lt BR3.out; omega); have ND := Aside0.mk (show g ≠ gd from fun e => by have := blk_lt BD3.out; omega); clear z0 z1 z2 z3 z4 r0 r1 r2 r3 r4 rf0 rf1 rf2 rf3 rf4; obtain ⟨z0, z1, z2, z3, z4⟩ := cl5_ BD4; obtain ⟨r0, r1, r2, r3, r4⟩ := cl5_ BR4; obtain ⟨rf0, rf1, rf2, rf3, rf4⟩ := fz5_ BR4; have g0 : w4.cell? ⟨g, 0, none⟩ = some (.int .u32 q1) := (blk_cell D4.out.1 0).trans rfl; have g1 : w4.cell? ⟨g, 1, none⟩ = some (.slice a1_ q2.length b1_) := (blk_cell D4.out.1 1).trans rfl; have g2 : w4.cell? ⟨g, 2, none⟩ = some (.slice a2_ q3.length b2_) := (blk_cell D4.out.1 2).trans rfl; have g3 : w4.cell? ⟨g, 3, none⟩ = some (.bool q4) := (blk_cell D4.out.1 3).trans rfl; have g4 : w4.cell? ⟨g, 4, none⟩ = some (.int .i64 q5) := (blk_cell D4.out.1 4).trans rfl; clear h4 hd4 hg4 BR3 BD3 K3) | (go_at_call 17; refine (burn_at true D4.out.1 HDN.out).mono ?_; rintro e w5 ⟨rfl, hs5⟩; have D5 := Aside0.mk (D4.out.step hs5); have R5 := Aside0.mk ((hs5.2.1.2 gr (blk_lt BR4.out) (fun e => NG.out e.symm) (by simp)).trans BR4.out); clear g0 g1 g2 g3 g4 r0 r1 r2 r3 r4 rf0 rf1 rf2 rf3 rf4 z0 z1 z2 z3 z4; have g0 : w5.cell? ⟨g, 0, none⟩ = some (.int .u32 q1) := (blk_cell D5.out.1 0).trans rfl; have g1 : w5.cell? ⟨g, 1, none⟩ = some (.slice a1_ q2.length b1_) := (blk_cell D5.out.1 1).trans rfl; have g2 : w5.cell? ⟨g, 2, none⟩ = some (.slice a2_ q3.length b2_) := (blk_cell D5.out.1 2).trans rfl; have g3 : w5.cell? ⟨g, 3, none⟩ = some (.bool true) := (blk_cell D5.out.1 3).trans rfl; have g4 : w5.cell? ⟨g, 4, none⟩ = some (.int .i64 (fuseOf q5)) := (blk_cell D5.out.1 4).trans rfl; have r0 : w5.cell? ⟨gr, 0, none⟩ = some (.int .u32 0) := (blk_cell R5.out 0).trans rfl; have r1 : w5.cell? ⟨gr, 1, none⟩ = some (.slice none 0 0) := (blk_cell R5.out 1).trans rfl; have r2 : w5.cell? ⟨gr, 2, none⟩ = some (.slice none 0 0) := (blk_cell R5.out 2).trans rfl; have r3 : w5.cell? ⟨gr, 3, none⟩ = some (.bool false) := (blk_cell R5.out 3).trans rfl; have r4 : w5.cell? ⟨gr, 4, none⟩ = some (.int .i64 0) := (blk_cell R5.out 4).trans rfl; have rf0 : w5.frozen? ⟨gr, 0, none⟩ = false := blk_frozen R5.out 0; have rf1 : w5.frozen? ⟨gr, 1, none⟩ = false := blk_frozen R5.out 1; have rf2 : w5.frozen? ⟨gr, 2, none⟩ = false := blk_frozen R5.out 2; have rf3 : w5.frozen? ⟨gr, 3, none⟩ = false := blk_frozen R5.out 3; have rf4 : w5.frozen? ⟨gr, 4, none⟩ = false := blk_frozen R5.out 4; clear hs5 D4 BR4))
        have hs := res_dev D5.out R5.out GR.out
        refine bodyPost_ret (results_ct rfl _ _ gr 30 #[.int .u32 q1, .slice a1_ q2.length b1_, .slice a2_ q3.length b2_, .bool true, .int .i64 (fuseOf q5)] (0, 0) _ rfl hs.1 Tryd.underlying30 rfl (by kernel_rfl)) rfl ?_
        exact ⟨_, _, rfl, hs.2⟩
      · rw [if_neg hdn] at h
        replace hdn := Bool.eq_false_iff.mpr hdn
        have HDN := Aside0.mk hdn
        clear hdn
        replace h := Option.bind_eq_some_iff.mp h
        obtain ⟨b, hb, h⟩ := h
        simp only [Option.some.injEq, Prod.mk.injEq] at h
        obtain ⟨rfl, rfl, rfl, rfl, rfl, rfl⟩ := h
        have HP := Aside0.mk hb
        clear hb
        go_enter Tryd.func7, Tryd.ntmps7
        go_wp2_with (first | ((with_reducible refine gate_dst (N := 1) rfl ?_); refine bx_ (N := 1) (cs := #[.int .u32 a0_0, .slice A0_1 l0_1.length c0_1, .slice A0_2 l0_2.length c0_2, .bool false, .int .i64 a0_4]) (t := 30) ?_; intro gd hgd w1 hx hbx; have BD1 := Aside0.mk hx; have K1 := Aside0.mk hbx; have GD := Aside0.mk (show w.heap.size ≤ gd by omega); obtain ⟨z0, z1, z2, z3, z4⟩ := cl5_ BD1; clear hx hbx hgd) | ((with_reducible refine gate_dst (N := 2) rfl ?_); refine bx_ (N := 2) (cs := #[.int .u32 0, .slice none 0 0, .slice none 0 0, .bool false, .int .i64 0]) (t := 30) ?_; intro gr hgr w2 hx hbx; have BR2 := Aside0.mk hx; have BD2 := Aside0.mk (blk_below BD1.out hbx); have K2 := Aside0.mk (below_step K1.out hbx); have NE := Aside0.mk (show gr ≠ gd by rw [hgr]; exact fun e => Nat.lt_irrefl _ (e ▸ blk_lt BD1.out)); have GR := Aside0.mk (show w.heap.size ≤ gr by rw [hgr]; exact K1.out.size); clear z0 z1 z2 z3 z4; obtain ⟨z0, z1, z2, z3, z4⟩ := cl5_ BD2; clear hx hbx hgr K1 BD1) | (go_at_call 14; refine (dev_Check.calls k a0_0 A0_1 c0_1 l0_1 A0_2 c0_2 l0_2 false a0_4 _ _ (Kd.C_below HR1.out K2.out) HC1.out (Kd.C_below HR2.out K2.out) HC2.out HY.out).mono ?_; rintro e w3 ⟨rfl, h3⟩; have BR3 := Aside0.mk (blk_below BR2.out h3); have BD3 := Aside0.mk (blk_below BD2.out h3); have K3 := Aside0.mk (below_step K2.out h3); clear z0 z1 z2 z3 z4; obtain ⟨z0, z1, z2, z3, z4⟩ := cl5_ BD3; obtain ⟨r0, r1, r2, r3, r4⟩ := cl5_ BR3; obtain ⟨rf0, rf1, rf2, rf3, rf4⟩ := fz5_ BR3; clear h3 BR2 BD2 K2) | (go_at_call 15; refine (open_calls a0_0 A0_1 c0_1 l0_1 A0_2 c0_2 l0_2 false a0_4 q1 q2 q3 q4 q5 w _ K3.out (Kd.C_below HR1.out K3.out) HC1.out (Kd.C_below HR2.out K3.out) HC2.out HO.out).mono ?_; rintro e w4 ⟨g, a1_, b1_, a2_, b2_, rfl, hg4, h4, hd4⟩; have D4 := Aside0.mk hd4; have BR4 := Aside0.mk (blk_below BR3.out h4); have BD4 := Aside0.mk (blk_below BD3.out h4); have NG := Aside0.mk (show g ≠ gr from fun e => by have := blk_lt BR3.out; omega); have ND := Aside0.mk (show g ≠ gd from fun e => by have := blk_lt BD3.out; omega); clear z0 z1 z2 z3 z4 r0 r1 r2 r3 r4 rf0 rf1 rf2 rf3 rf4; obtain ⟨z0, z1, z2, z3, z4⟩ := cl5_ BD4; obtain ⟨r0, r1, r2, r3, r4⟩ := cl5_ BR4; obtain ⟨rf0, rf1, rf2, rf3, rf4⟩ := fz5_ BR4; have g0 : w4.cell? ⟨g, 0, none⟩ = some (.int .u32 q1) := (blk_cell D4.out.1 0).trans rfl; have g1 : w4.cell? ⟨g, 1, none⟩ = some (.slice a1_ q2.length b1_) := (blk_cell D4.out.1 1).trans rfl; have g2 : w4.cell? ⟨g, 2, none⟩ = some (.slice a2_ q3.length b2_) := (blk_cell D4.out.1 2).trans rfl; have g3 : w4.cell? ⟨g, 3, none⟩ = some (.bool q4) := (blk_cell D4.out.1 3).trans rfl; have g4 : w4.cell? ⟨g, 4, none⟩ = some (.int .i64 q5) := (blk_cell D4.out.1 4).trans rfl; clear h4 hd4 hg4 BR3 BD3 K3) | (go_at_call 17; refine (burn_at false D4.out.1 HDN.out).mono ?_; rintro e w5 ⟨rfl, hs5⟩; have D5 := Aside0.mk (D4.out.step hs5); have R5 := Aside0.mk ((hs5.2.1.2 gr (blk_lt BR4.out) (fun e => NG.out e.symm) (by simp)).trans BR4.out); clear g0 g1 g2 g3 g4 r0 r1 r2 r3 r4 rf0 rf1 rf2 rf3 rf4 z0 z1 z2 z3 z4; have g0 : w5.cell? ⟨g, 0, none⟩ = some (.int .u32 q1) := (blk_cell D5.out.1 0).trans rfl; have g1 : w5.cell? ⟨g, 1, none⟩ = some (.slice a1_ q2.length b1_) := (blk_cell D5.out.1 1).trans rfl; have g2 : w5.cell? ⟨g, 2, none⟩ = some (.slice a2_ q3.length b2_) := (blk_cell D5.out.1 2).trans rfl; have g3 : w5.cell? ⟨g, 3, none⟩ = some (.bool false) := (blk_cell D5.out.1 3).trans rfl; have g4 : w5.cell? ⟨g, 4, none⟩ = some (.int .i64 (fuseOf q5)) := (blk_cell D5.out.1 4).trans rfl; have r0 : w5.cell? ⟨gr, 0, none⟩ = some (.int .u32 0) := (blk_cell R5.out 0).trans rfl; have r1 : w5.cell? ⟨gr, 1, none⟩ = some (.slice none 0 0) := (blk_cell R5.out 1).trans rfl; have r2 : w5.cell? ⟨gr, 2, none⟩ = some (.slice none 0 0) := (blk_cell R5.out 2).trans rfl; have r3 : w5.cell? ⟨gr, 3, none⟩ = some (.bool false) := (blk_cell R5.out 3).trans rfl; have r4 : w5.cell? ⟨gr, 4, none⟩ = some (.int .i64 0) := (blk_cell R5.out 4).trans rfl; have rf0 : w5.frozen? ⟨gr, 0, none⟩ = false := blk_frozen R5.out 0; have rf1 : w5.frozen? ⟨gr, 1, none⟩ = false := blk_frozen R5.out 1; have rf2 : w5.frozen? ⟨gr, 2, none⟩ = false := blk_frozen R5.out 2; have rf3 : w5.frozen? ⟨gr, 3, none⟩ = false := blk_frozen R5.out 3; have rf4 : w5.frozen? ⟨gr, 4, none⟩ = false := blk_frozen R5.out 4; clear hs5 D4 BR4))
        have hql : (q3.length : Int) ≤ 9223372036854775807 := by
          obtain ⟨_, _, _, _, hC⟩ := Kd.R_reads D5.out.2.2.2.1
          have := Kd.C_max hC
          omega
        clear g0 g1 g2 g3 g4 r0 r1 r2 r3 r4 rf0 rf1 rf2 rf3 rf4
        go_loopw [33] (fun i wr => ∃ (x : Int) (vB : Value) (bl : List Blk), i = .int .i64 x ∧ Aside0 (0 ≤ x ∧ x ≤ q3.length) ∧ Aside0 (Drv w wr g q1 vB (.slice a2_ q3.length b2_) bl q3 false (fuseOf q5) 0) ∧ Aside0 (wr.heap[gr]? = some (.cells #[.int .u32 0, .slice none 0 0, .slice none 0 0, .bool false, .int .i64 0] 30 (0, 0))) ∧ Aside0 (putsF k bl (q3.drop x.toNat) = some b)) (fun i _ => q3.length - (intOf i).toNat)
        case atStart => exact ⟨0, _, _, rfl, ⟨by omega⟩, D5, R5, HP⟩
        case round =>
          obtain ⟨x, vB, bl, rfl, HX, HDW, HGR, HF⟩ := hrel
          obtain ⟨hx0, hx1⟩ := HX.out
          by_cases hlt : x < q3.length
          · obtain ⟨A0, c0, hA0, _, hC⟩ := Kd.R_reads HDW.out.2.2.2.1
            injection hA0 with hA1 hA2 hA3
            subst hA1
            subst hA3
            obtain ⟨ad, hA, k0, k1⟩ := at_T60 hC x hx0 hlt
            subst hA
            have hlt2 : decide (x < (q3.length : Int)) = true := decide_eq_true hlt
            have p0 := eq_true hx0
            have p1 := eq_true hlt
            obtain ⟨y, hy⟩ : ∃ y, y = rd_T60 q3 x := ⟨_, rfl⟩
            have hd : q3.drop x.toNat = y :: q3.drop (x + 1).toNat := by
              have hl : x.toNat < q3.length := by omega
              rw [List.drop_eq_getElem_cons hl, hy, show (x + 1).toNat = x.toNat + 1 by omega]
              congr 1
              unfold rd_T60
              rw [List.getD_eq_getElem?_getD, List.getElem?_eq_getElem hl]
              rfl
            have hF := HF.out
            rw [hd, putsF] at hF
            obtain ⟨b', hb', hF⟩ := Option.bind_eq_some_iff.mp hF
            rw [← hy] at k0 k1
            have HP' := Aside0.mk hb'
            have HG := Aside0.mk hF
            have DA : ∀ o, Drv w (wr.alloc o) g q1 vB (.slice (some ad) q3.length b2_) bl q3 false (fuseOf q5) 0 := fun o => HDW.out.below (below_alloc (Below.refl _ _) o)
            have DA' := Aside0.mk DA
            clear hb' hF hd hx0 hx1 hlt hy hC DA HP D5 R5
            go_wp2_with (go_at_call 18; refine (put_calls k g q1 _ _ false (fuseOf q5) 0 bl y b' w _ (DA'.out _).2.2.2.2 (DA'.out _).1 (DA'.out (.cells #[.int .u32 y.f0, .string y.f1] 60)).2.1 (Kd.R_mono (DA'.out _).2.2.1 (fun _ _ => trivial)) HP'.out).mono ?_; rintro e w6 ⟨rfl, vn, hb6, hO6, hB6, hK6⟩; have D6 := Aside0.mk ((DA'.out _).put hb6 hO6 hB6 hK6); have R6 := Aside0.mk (blk_kept (blk_alloc HGR.out _) hK6 (fun e => e.elim (fun q => NG.out q.symm) (own_ne HDW.out.2.2.1 HGR.out (by decide)))); clear hb6 hO6 hB6 hK6)
            have hx := HX.out
            have hl : x < q3.length := of_eq_true p1
            have ew : wrap64 (x + 1) = x + 1 := by unfold wrap64; omega
            go_roundw
            case rel =>
              exact ⟨x + 1, vn, b', by rw [ew], ⟨by omega⟩, D6, R6, HG⟩
            case measure =>
              simp [ew, intOf]
              omega
          · have hge : decide (x < (q3.length : Int)) = false := decide_eq_false hlt
            have hF := HF.out
            rw [List.drop_eq_nil_of_le (by omega), putsF] at hF
            obtain rfl := Option.some.inj hF
            obtain ⟨an_, bn_, rfl⟩ := Kd.R_slice HDW.out.2.2.1
            have n1 : ¬ g = gr := NG.out
            have n2 : ¬ gr = g := fun e => NG.out e.symm
            have DE := Aside0.mk HDW.out.empty
            have RE := Aside0.mk ((Below.heap_setCell wr ⟨g, 2, none⟩ (.slice none 0 0) gr n2).trans HGR.out)
            have g0 : wr.cell? ⟨g, 0, none⟩ = some (.int .u32 q1) := (blk_cell HDW.out.1 0).trans rfl; have g1 : wr.cell? ⟨g, 1, none⟩ = some (.slice an_ bl.length bn_) := (blk_cell HDW.out.1 1).trans rfl; have g2 : wr.cell? ⟨g, 2, none⟩ = some (.slice a2_ q3.length b2_) := (blk_cell HDW.out.1 2).trans rfl; have g3 : wr.cell? ⟨g, 3, none⟩ = some (.bool false) := (blk_cell HDW.out.1 3).trans rfl; have g4 : wr.cell? ⟨g, 4, none⟩ = some (.int .i64 (fuseOf q5)) := (blk_cell HDW.out.1 4).trans rfl
            have r0 : wr.cell? ⟨gr, 0, none⟩ = some (.int .u32 0) := (blk_cell HGR.out 0).trans rfl; have r1 : wr.cell? ⟨gr, 1, none⟩ = some (.slice none 0 0) := (blk_cell HGR.out 1).trans rfl; have r2 : wr.cell? ⟨gr, 2, none⟩ = some (.slice none 0 0) := (blk_cell HGR.out 2).trans rfl; have r3 : wr.cell? ⟨gr, 3, none⟩ = some (.bool false) := (blk_cell HGR.out 3).trans rfl; have r4 : wr.cell? ⟨gr, 4, none⟩ = some (.int .i64 0) := (blk_cell HGR.out 4).trans rfl; have rf0 : wr.frozen? ⟨gr, 0, none⟩ = false := blk_frozen HGR.out 0; have rf1 : wr.frozen? ⟨gr, 1, none⟩ = false := blk_frozen HGR.out 1; have rf2 : wr.frozen? ⟨gr, 2, none⟩ = false := blk_frozen HGR.out 2; have rf3 : wr.frozen? ⟨gr, 3, none⟩ = false := blk_frozen HGR.out 3; have rf4 : wr.frozen? ⟨gr, 4, none⟩ = false := blk_frozen HGR.out 4; have gf2 : wr.frozen? ⟨g, 2, none⟩ = false := blk_frozen HDW.out.1 2
            clear hF HF HP D5 R5
            go_wp2
            have hs := res_dev DE.out RE.out GR.out
            refine bodyPost_ret (results_ct rfl _ _ gr 30 #[.int .u32 q1, .slice an_ bl.length bn_, .slice none 0 0, .bool false, .int .i64 (fuseOf q5)] (0, 0) _ rfl hs.1 Tryd.underlying30 rfl (by kernel_rfl)) rfl ?_
            exact ⟨_, _, rfl, hs.2⟩
  · rw [if_neg h0] at h
    cases h
    have h0b : (r6 == 0) = false := beq_eq_false_iff_ne.mpr h0
    have h0c : (r6 != 0) = true := bne_iff_ne.mpr h0
    go_enter Tryd.func7, Tryd.ntmps7
    go_wp2_with (first | ((with_reducible refine gate_dst (N := 1) rfl ?_); refine bx_ (N := 1) (cs := #[.int .u32 a0_0, .slice A0_1 l0_1.length c0_1, .slice A0_2 l0_2.length c0_2, .bool a0_3, .int .i64 a0_4]) (t := 30) ?_; intro gd hgd w1 hx hbx; have BD1 := Aside0.mk hx; have K1 := Aside0.mk hbx; have GD := Aside0.mk (show w.heap.size ≤ gd by omega); obtain ⟨z0, z1, z2, z3, z4⟩ := cl5_ BD1; clear hx hbx hgd) | ((with_reducible refine gate_dst (N := 2) rfl ?_); refine bx_ (N := 2) (cs := #[.int .u32 0, .slice none 0 0, .slice none 0 0, .bool false, .int .i64 0]) (t := 30) ?_; intro gr hgr w2 hx hbx; have BR2 := Aside0.mk hx; have BD2 := Aside0.mk (blk_below BD1.out hbx); have K2 := Aside0.mk (below_step K1.out hbx); have NE := Aside0.mk (show gr ≠ gd by rw [hgr]; exact fun e => Nat.lt_irrefl _ (e ▸ blk_lt BD1.out)); have GR := Aside0.mk (show w.heap.size ≤ gr by rw [hgr]; exact K1.out.size); clear z0 z1 z2 z3 z4; obtain ⟨z0, z1, z2, z3, z4⟩ := cl5_ BD2; clear hx hbx hgr K1 BD1) | (go_at_call 14; refine (dev_Check.calls k a0_0 A0_1 c0_1 l0_1 A0_2 c0_2 l0_2 a0_3 a0_4 _ _ (Kd.C_below HR1.out K2.out) HC1.out (Kd.C_below HR2.out K2.out) HC2.out HY.out).mono ?_; rintro e w3 ⟨rfl, h3⟩; have BR3 := Aside0.mk (blk_below BR2.out h3); have BD3 := Aside0.mk (blk_below BD2.out h3); have K3 := Aside0.mk (below_step K2.out h3); clear z0 z1 z2 z3 z4; obtain ⟨z0, z1, z2, z3, z4⟩ := cl5_ BD3; obtain ⟨r0, r1, r2, r3, r4⟩ := cl5_ BR3; obtain ⟨rf0, rf1, rf2, rf3, rf4⟩ := fz5_ BR3; clear h3 BR2 BD2 K2))
    have hs := res_zero K3.out BR3.out GR.out
    refine bodyPost_ret (results_ct rfl _ _ gr 30 #[.int .u32 0, .slice none 0 0, .slice none 0 0, .bool false, .int .i64 0] (0, 0) _ rfl hs.1 Tryd.underlying30 rfl (by kernel_rfl)) rfl ?_
    exact ⟨_, _, rfl, Kd.R_nil _ _ _ _ _, Kd.R_nil _ _ _ _ _, hs.2⟩
end Go.Proofs.YthbljhmjppjcjaaDoor.Z
end

section
/- dev.Crash: printed by gendev.py. -/
namespace Go.Proofs.YthbljhmjppjcjaaDoor.Z
open Go.RowKit Go.Proofs.YthbljhmjppjcjaaDoorW.PrintWords Go.Proofs.YthbljhmjppjcjaaDoorW.PrintLast Go.Proofs.YthbljhmjppjcjaaDoorW.PrintMore
attribute [local go_sem] max2_int min2_int max_two min_two max_three min_three max_four min_four
set_option linter.unusedVariables false
set_option linter.unusedSimpArgs false
attribute [local go_sem ↓] Go.wp_at_zero Go.wp_at_succ
theorem res_rows {w0 w : World} {gr : Nat} {s f : Int} {d : Bool} {vB : Value} {bl : List Blk} {z0 z1 z2 z3 z4 : Value} (hO : Own w w0.heap.size (fun _ => True) vB bl) (hB : Below w0.heap.size w0 w) (hr : w.heap[gr]? = some (.cells #[z0, z1, z2, z3, z4] 30 (0, 0))) (hgr : w0.heap.size ≤ gr) :
    (((((w.setCell ⟨gr, 0, none⟩ (.int .u32 s)).setCell ⟨gr, 1, none⟩ vB).setCell ⟨gr, 2, none⟩ (.slice none 0 0)).setCell ⟨gr, 3, none⟩ (.bool d)).setCell ⟨gr, 4, none⟩ (.int .i64 f)).heap[gr]? = some (.cells #[.int .u32 s, vB, .slice none 0 0, .bool d, .int .i64 f] 30 (0, 0)) ∧
    Own (((((w.setCell ⟨gr, 0, none⟩ (.int .u32 s)).setCell ⟨gr, 1, none⟩ vB).setCell ⟨gr, 2, none⟩ (.slice none 0 0)).setCell ⟨gr, 3, none⟩ (.bool d)).setCell ⟨gr, 4, none⟩ (.int .i64 f)) w0.heap.size (fun k_ => some k_ ≠ (.slice none 0 0 : Value).ownBlock) vB bl ∧
    Below w0.heap.size w0 (((((w.setCell ⟨gr, 0, none⟩ (.int .u32 s)).setCell ⟨gr, 1, none⟩ vB).setCell ⟨gr, 2, none⟩ (.slice none 0 0)).setCell ⟨gr, 3, none⟩ (.bool d)).setCell ⟨gr, 4, none⟩ (.int .i64 f)) := by
  have hs := (((((Step.refl hr).set 0 (.int .u32 s) rfl).set 1 vB rfl).set 2 (.slice none 0 0) rfl).set 3 (.bool d) rfl).set 4 (.int .i64 f) rfl
  exact ⟨hs.1, Kd.R_mono (Kd.R_keep (Kd.R_types hO hr (by decide)) hs.2.1 (fun _ hk => hk.2)) (fun _ _ e => by cases e), hB.trans (hs.2.2 _ hgr)⟩
def keepF (k : Nat) : List Blk → List Blk → List Bool → Option (List Blk)
  | bl, x :: wl, t :: l => if t = true then (putF k bl x).bind fun b => keepF k b wl l else keepF k bl wl l
  | bl, _, _ => some bl
theorem keepF_mono : ∀ a1 a0 a2 k, LeO (keepF k a0 a1 a2) (keepF (k + 1) a0 a1 a2) := by
  intro a1
  induction a1 with
  | nil => intro a0 a2 k; cases a2 <;> exact LeO.refl _
  | cons x wl ih =>
    intro a0 a2 k
    cases a2 with
    | nil => exact LeO.refl _
    | cons t l => exact LeO.ite (LeO.bind (putF_mono _ _ _) (fun _ => ih _ _ _)) (ih _ _ _)
def dev_Crash.f (k : Nat) (a0_0 : Int) (l0_1 : List (S60)) (l0_2 : List (S60)) (a0_3 : Bool) (a0_4 : Int) (l1 : List Bool) : Option (Int × (List (S60)) × (List (S60)) × Bool × Int × Int) :=
  (dev_Check.f k a0_0 l0_1 l0_2 a0_3 a0_4).bind fun y => if y = 0 then ((dev_Own.f a0_0 l0_1 l0_2 a0_3 a0_4).bind fun q => (keepF k q.2.1 q.2.2.1 l1).bind fun b => some (q.1, b, ([] : List (S60)), false, (-1 : Int), 0)) else some (0, ([] : List (S60)), ([] : List (S60)), false, 0, y)
theorem dev_Crash.mono : ∀ a0 a1 a2 a3 a4 a5 k, LeO (dev_Crash.f k a0 a1 a2 a3 a4 a5) (dev_Crash.f (k + 1) a0 a1 a2 a3 a4 a5) := by
  intro a0 a1 a2 a3 a4 a5 k
  unfold dev_Crash.f
  exact LeO.bind (dev_Check.mono _ _ _ _ _ _) (fun _ => LeO.ite (LeO.bind (LeO.refl _) (fun _ => LeO.bind (keepF_mono _ _ _ _) (fun _ => LeO.refl _))) (LeO.refl _))
set_option maxRecDepth 100000 in
set_option maxHeartbeats 6400000 in
theorem dev_Crash.calls (k : Nat) (a0_0 : Int) (A0_1 : Option Addr) (c0_1 : Nat) (l0_1 : List (S60)) (A0_2 : Option Addr) (c0_2 : Nat) (l0_2 : List (S60)) (a0_3 : Bool) (a0_4 : Int) (A1 : Option Addr) (c1 : Nat) (l1 : List Bool) (r1 : Int) (r2 : List (S60)) (r3 : List (S60)) (r4 : Bool) (r5 : Int) (r6 : Int) (w : World) (hr0_1 : Kd.C k60 w A0_1 l0_1.length l0_1) (hc0_1 : l0_1.length ≤ c0_1) (hr0_2 : Kd.C k60 w A0_2 l0_2.length l0_2) (hc0_2 : l0_2.length ≤ c0_2) (hr1 : Kd.C Kd.bool w A1 l1.length l1) (hc1 : l1.length ≤ c1) (h : dev_Crash.f k a0_0 l0_1 l0_2 a0_3 a0_4 l1 = some (r1, r2, r3, r4, r5, r6)) :
    Calls Tryd.prog 8 #[.agg #[.int .u32 a0_0, .slice A0_1 l0_1.length c0_1, .slice A0_2 l0_2.length c0_2, .bool a0_3, .int .i64 a0_4], .slice A1 l1.length c1] w fun e w' => ∃ v1_ v2_ : Value, e = .returned (.tuple #[.agg #[.int .u32 r1, v1_, v2_, .bool r4, .int .i64 r5], .int .i64 r6]) ∧ Kd.R k60 60 w' w.heap.size (fun k_ => some k_ ≠ (v2_ : Value).ownBlock) v1_ r2 ∧ Kd.R k60 60 w' w.heap.size (fun k_ => some k_ ≠ (v1_ : Value).ownBlock) v2_ r3 ∧ Below w.heap.size w w' := by
  have HR1 := Aside0.mk hr0_1
  have HR2 := Aside0.mk hr0_2
  have HC1 := Aside0.mk hc0_1
  have HC2 := Aside0.mk hc0_2
  clear hr0_1 hr0_2 hc0_1 hc0_2
  unfold dev_Crash.f at h
  replace h := Option.bind_eq_some_iff.mp h
  obtain ⟨y, hy, h⟩ := h
  have HY := Aside0.mk hy
  clear hy
  by_cases h0 : y = 0
  · rw [if_pos h0] at h
    subst h0
    replace h := Option.bind_eq_some_iff.mp h
    obtain ⟨⟨q1, q2, q3, q4, q5⟩, hq, h⟩ := h
    have HO := Aside0.mk hq
    clear hq
    replace h : ((keepF k q2 q3 l1).bind fun b => some (q1, b, ([] : List (S60)), false, (-1 : Int), 0)) = some (r1, r2, r3, r4, r5, r6) := h
    replace h := Option.bind_eq_some_iff.mp h
    obtain ⟨b, hb, h⟩ := h
    simp only [Option.some.injEq, Prod.mk.injEq] at h
    obtain ⟨rfl, rfl, rfl, rfl, rfl, rfl⟩ := h
    have HP := Aside0.mk hb
    have HL := Aside0.mk hr1
    have HLC := Aside0.mk hc1
    clear hb hr1 hc1
    go_enter Tryd.func8, Tryd.ntmps8
    go_wp2_with (first | ((with_reducible refine gate_dst (N := 2) rfl ?_); refine bx_ (N := 2) (cs := #[.int .u32 a0_0, .slice A0_1 l0_1.length c0_1, .slice A0_2 l0_2.length c0_2, .bool a0_3, .int .i64 a0_4]) (t := 30) ?_; intro gd hgd w1 hx hbx; have BD1 := Aside0.mk hx; have K1 := Aside0.mk hbx; have GD := Aside0.mk (show w.heap.size ≤ gd by omega); obtain ⟨z0, z1, z2, z3, z4⟩ := cl5_ BD1; clear hx hbx hgd) | ((with_reducible refine gate_dst (N := 4) rfl ?_); refine bx_ (N := 4) (cs := #[.int .u32 0, .slice none 0 0, .slice none 0 0, .bool false, .int .i64 0]) (t := 30) ?_; intro gr hgr w2 hx hbx; have BR2 := Aside0.mk hx; have BD2 := Aside0.mk (blk_below BD1.out hbx); have K2 := Aside0.mk (below_step K1.out hbx); have NE := Aside0.mk (show gr ≠ gd by rw [hgr]; exact fun e => Nat.lt_irrefl _ (e ▸ blk_lt BD1.out)); have GR := Aside0.mk (show w.heap.size ≤ gr by rw [hgr]; exact K1.out.size); clear z0 z1 z2 z3 z4; obtain ⟨z0, z1, z2, z3, z4⟩ := cl5_ BD2; clear hx hbx hgr K1 BD1) | (go_at_call 14; refine (dev_Check.calls k a0_0 A0_1 c0_1 l0_1 A0_2 c0_2 l0_2 a0_3 a0_4 _ _ (Kd.C_below HR1.out K2.out) HC1.out (Kd.C_below HR2.out K2.out) HC2.out HY.out).mono ?_; rintro e w3 ⟨rfl, h3⟩; have BR3 := Aside0.mk (blk_below BR2.out h3); have BD3 := Aside0.mk (blk_below BD2.out h3); have K3 := Aside0.mk (below_step K2.out h3); clear z0 z1 z2 z3 z4; obtain ⟨z0, z1, z2, z3, z4⟩ := cl5_ BD3; obtain ⟨r0, r1, r2, r3, r4⟩ := cl5_ BR3; obtain ⟨rf0, rf1, rf2, rf3, rf4⟩ := fz5_ BR3; clear h3 BR2 BD2 K2) | (go_at_call 15; refine (open_calls a0_0 A0_1 c0_1 l0_1 A0_2 c0_2 l0_2 a0_3 a0_4 q1 q2 q3 q4 q5 w _ K3.out (Kd.C_below HR1.out K3.out) HC1.out (Kd.C_below HR2.out K3.out) HC2.out HO.out).mono ?_; rintro e w4 ⟨g, a1_, b1_, a2_, b2_, rfl, hg4, h4, hd4⟩; have D4 := Aside0.mk hd4; have BR4 := Aside0.mk (blk_below BR3.out h4); have BD4 := Aside0.mk (blk_below BD3.out h4); have NG := Aside0.mk (show g ≠ gr from fun e => by have := blk_lt BR3.out; omega); have ND := Aside0.mk (show g ≠ gd from fun e => by have := blk_lt BD3.out; omega); clear z0 z1 z2 z3 z4 r0 r1 r2 r3 r4 rf0 rf1 rf2 rf3 rf4; obtain ⟨z0, z1, z2, z3, z4⟩ := cl5_ BD4; obtain ⟨r0, r1, r2, r3, r4⟩ := cl5_ BR4; obtain ⟨rf0, rf1, rf2, rf3, rf4⟩ := fz5_ BR4; have g0 : w4.cell? ⟨g, 0, none⟩ = some (.int .u32 q1) := (blk_cell D4.out.1 0).trans rfl; have g1 : w4.cell? ⟨g, 1, none⟩ = some (.slice a1_ q2.length b1_) := (blk_cell D4.out.1 1).trans rfl; have g2 : w4.cell? ⟨g, 2, none⟩ = some (.slice a2_ q3.length b2_) := (blk_cell D4.out.1 2).trans rfl; have g3 : w4.cell? ⟨g, 3, none⟩ = some (.bool q4) := (blk_cell D4.out.1 3).trans rfl; have g4 : w4.cell? ⟨g, 4, none⟩ = some (.int .i64 q5) := (blk_cell D4.out.1 4).trans rfl; clear h4 hd4 hg4 BR3 BD3 K3))
    clear r0 r1 r2 r3 r4 rf0 rf1 rf2 rf3 rf4 z0 z1 z2 z3 z4
    have hDd := Aside0.mk D4.out.drew
    have hRd := Aside0.mk (blk_drew BR4.out)
    have hqc : q3.length ≤ b2_ ∧ (q3.length : Int) ≤ 9223372036854775807 := by
      obtain ⟨A0, c0, hA0, hle, hC⟩ := Kd.R_reads hDd.out.2.2.2.1
      injection hA0 with hA1 hA2 hA3
      have := Kd.C_max hC
      exact ⟨by omega, by omega⟩
    obtain ⟨mm, hmm, hmq, hml, hmo⟩ : ∃ mm : Nat, (if q3.length < l1.length then (q3.length : Int) else (l1.length : Int)) = (mm : Int) ∧ mm ≤ q3.length ∧ mm ≤ l1.length ∧ (mm = q3.length ∨ mm = l1.length) := by
      by_cases hc : q3.length < l1.length
      · exact ⟨q3.length, if_pos hc, by omega, by omega, .inl rfl⟩
      · exact ⟨l1.length, if_neg hc, by omega, by omega, .inr rfl⟩
    have hmb : mm ≤ b2_ := Nat.le_trans hmq hqc.1
    have hmb0 : (0 : Int) ≤ (mm : Int) := by omega
    have hmb1 : (mm : Int) ≤ (b2_ : Int) := by omega
    have MQ := Aside0.mk hmq
    have ML := Aside0.mk hml
    have MO := Aside0.mk hmo
    have QC := Aside0.mk hqc
    clear hmq hml hmo hqc
    refine start_ (n := 17) (S := fun w' => w'.cell? ⟨g, 2, none⟩ = some (.slice a2_ q3.length b2_) ∧ w'.cell? ⟨g, 0, none⟩ = some (.int .u32 q1)) (ds := []) #[false, false, false, false, false, false, false, false, false, false, false, false, false, false, false, false, false] (by kernel_rfl) rfl rfl ⟨g2, g0⟩ (fun hHeld => ?_)
    clear g0 g1 g2 g3 g4 D4 BR4 BD4
    generalize w4.drew = wd at hDd hRd hHeld ⊢
    refine pu_ 0 18 ?_
    refine pu_ 1 19 ?_
    refine pu_ 2 20 ?_
    refine pu_ 3 21 ?_
    refine tk2_ 4 22 ?_
    refine pu_ 5 23 ?_
    refine pu_ 6 24 ?_
    refine pu_ 7 25 ?_
    refine pu_ 8 26 ?_
    refine pu_ 9 27 ?_
    refine pu_ 10 28 ?_
    refine tk2_ 11 29 ?_
    refine pu_ 12 30 ?_
    refine pu_ 13 31 ?_
    refine pu_ 14 32 ?_
    refine pu_ 15 33 ?_
    refine pu_ 16 34 ?_
    refine done_ (by kernel_rfl) ?_
    clear hmm hmb hmb0 hmb1
    go_wp2
    go_loopw [34] (fun i wr => ∃ (x : Int) (vB : Value) (bl : List Blk), i = .int .i64 x ∧ Aside0 (0 ≤ x ∧ x ≤ mm) ∧ Aside0 (Drv w wr g q1 vB (.slice a2_ q3.length b2_) bl q3 q4 q5 0) ∧ Aside0 (wr.heap[gr]? = some (.cells #[.int .u32 0, .slice none 0 0, .slice none 0 0, .bool false, .int .i64 0] 30 (0, 0))) ∧ Aside0 (keepF k bl (q3.drop x.toNat) (l1.drop x.toNat) = some b)) (fun i _ => mm - (intOf i).toNat)
    case atStart => exact ⟨0, _, _, rfl, ⟨by omega⟩, hDd, hRd, HP⟩
    case round =>
      obtain ⟨x, vB, bl, rfl, HX, HDW, HGR, HF⟩ := hrel
      obtain ⟨hx0, hx1⟩ := HX.out
      by_cases hlt : x < mm
      · obtain ⟨A0, c0, hA0, _, hC⟩ := Kd.R_reads HDW.out.2.2.2.1
        injection hA0 with hA1 hA2 hA3
        subst hA1
        subst hA3
        have hltq : x < (q3.length : Int) := by have := MQ.out; omega
        have hltl : x < (l1.length : Int) := by have := ML.out; omega
        obtain ⟨ad, hA, k0, k1⟩ := at_T60 hC x hx0 hltq
        subst hA
        obtain ⟨ab, hA, kb⟩ := Kd.at_bool (Kd.C_below HL.out HDW.out.2.2.2.2) x hx0 hltl
        subst hA
        have hlt2 : decide (x < (mm : Int)) = true := decide_eq_true hlt
        have p0 := eq_true hx0
        have p1 := eq_true hlt
        have p2 := eq_true hltl
        obtain ⟨y, hy⟩ : ∃ y, y = rd_T60 q3 x := ⟨_, rfl⟩
        obtain ⟨t, ht⟩ : ∃ t, t = rdOf false l1 x := ⟨_, rfl⟩
        have hd : q3.drop x.toNat = y :: q3.drop (x + 1).toNat := by
          have hl : x.toNat < q3.length := by omega
          rw [List.drop_eq_getElem_cons hl, hy, show (x + 1).toNat = x.toNat + 1 by omega]
          congr 1
          unfold rd_T60
          rw [List.getD_eq_getElem?_getD, List.getElem?_eq_getElem hl]
          rfl
        have hd2 : l1.drop x.toNat = t :: l1.drop (x + 1).toNat := by
          have hl : x.toNat < l1.length := by omega
          rw [List.drop_eq_getElem_cons hl, ht, show (x + 1).toNat = x.toNat + 1 by omega]
          congr 1
          unfold rdOf
          rw [List.getD_eq_getElem?_getD, List.getElem?_eq_getElem hl]
          rfl
        have hF := HF.out
        rw [hd, hd2, keepF] at hF
        rw [← hy] at k0 k1
        rw [← ht] at kb
        have kb' := ((below_alloc (Below.refl wr.heap.size wr) (.cells #[.int .u32 y.f0, .string y.f1] 60 (0, 0))).cell (World.block_lt_of_cell? wr _ kb)).trans kb
        have DA : ∀ o, Drv w (wr.alloc o) g q1 vB (.slice (some ad) q3.length b2_) bl q3 q4 q5 0 := fun o => HDW.out.below (below_alloc (Below.refl _ _) o)
        have DA' := Aside0.mk DA
        clear hd hd2 hx0 hx1 hlt hltq hltl hy hC DA HP hDd hRd ht kb
        cases t with
        | true =>
          rw [if_pos rfl] at hF
          obtain ⟨b', hb', hF⟩ := Option.bind_eq_some_iff.mp hF
          have HP' := Aside0.mk hb'
          have HG := Aside0.mk hF
          clear hb' hF
          go_wp2_with (go_at_call 18; refine (put_calls k g q1 _ _ q4 q5 0 bl y b' w _ (DA'.out _).2.2.2.2 (DA'.out _).1 (DA'.out (.cells #[.int .u32 y.f0, .string y.f1] 60)).2.1 (Kd.R_mono (DA'.out _).2.2.1 (fun _ _ => trivial)) HP'.out).mono ?_; rintro e w6 ⟨rfl, vn, hb6, hO6, hB6, hK6⟩; have D6 := Aside0.mk ((DA'.out _).put hb6 hO6 hB6 hK6); have R6 := Aside0.mk (blk_kept (blk_alloc HGR.out _) hK6 (fun e => e.elim (fun q => NG.out q.symm) (own_ne HDW.out.2.2.1 HGR.out (by decide)))); clear hb6 hO6 hB6 hK6)
          have hx := HX.out
          have hl : x < mm := of_eq_true p1
          have hm := QC.out
          have hm2 := MQ.out
          have ew : wrap64 (x + 1) = x + 1 := by unfold wrap64; omega
          go_roundw
          case rel => exact ⟨x + 1, vn, b', by rw [ew], ⟨by omega⟩, D6, R6, HG⟩
          case measure =>
            simp [ew, intOf]
            omega
        | false =>
          rw [if_neg (by decide)] at hF
          have HG := Aside0.mk hF
          clear hF
          go_wp2
          have hx := HX.out
          have hl : x < mm := of_eq_true p1
          have hm := QC.out
          have hm2 := MQ.out
          have ew : wrap64 (x + 1) = x + 1 := by unfold wrap64; omega
          go_roundw
          case rel => exact ⟨x + 1, vB, bl, by rw [ew], ⟨by omega⟩, ⟨DA'.out _⟩, ⟨blk_alloc HGR.out _⟩, HG⟩
          case measure =>
            simp [ew, intOf]
            omega
      · have hge : decide (x < (mm : Int)) = false := decide_eq_false hlt
        have hF := HF.out
        have hxm : x.toNat = mm := by omega
        have he : keepF k bl (q3.drop x.toNat) (l1.drop x.toNat) = some bl := by
          rw [hxm]
          rcases MO.out with e | e
          · rw [e, List.drop_length]; cases l1.drop q3.length <;> rfl
          · rw [e, List.drop_length]; cases q3.drop l1.length <;> rfl
        rw [he] at hF
        obtain rfl := Option.some.inj hF
        obtain ⟨an_, bn_, rfl⟩ := Kd.R_slice HDW.out.2.2.1
        have hDe := Aside0.mk HDW.out.drew
        have hRe := Aside0.mk (blk_drew HGR.out)
        have n1 : ¬ g = gr := NG.out
        have n2 : ¬ gr = g := fun e => NG.out e.symm
        have g0 : wr.cell? ⟨g, 0, none⟩ = some (.int .u32 q1) := (blk_cell HDW.out.1 0).trans rfl
        have g1 : wr.cell? ⟨g, 1, none⟩ = some (.slice an_ bl.length bn_) := (blk_cell HDW.out.1 1).trans rfl
        clear hF he HF HP hDd hRd
        go_wp2
        refine start_ (n := 13) (S := fun w' => w'.cell? ⟨g, 0, none⟩ = some (.int .u32 q1) ∧ w'.cell? ⟨g, 1, none⟩ = some (.slice an_ bl.length bn_)) (ds := [11]) #[false, false, false, false, false, false, false, false, false, false, false, false, false] (by kernel_rfl) rfl rfl ⟨g0, g1⟩ (fun hHeld => ?_)
        generalize wr.drew = we at hDe hRe hHeld ⊢
        refine pu_ 0 47 ?_
        refine pu_ 1 48 ?_
        refine pu_ 2 49 ?_
        refine pu_ 3 50 ?_
        refine tk2_ 4 51 ?_
        refine pu_ 5 52 ?_
        refine pu_ 6 53 ?_
        refine pu_ 7 54 ?_
        refine pu_ 8 55 ?_
        refine tk2_ 9 56 ?_
        refine pu_ 10 57 ?_
        have r0 : we.cell? ⟨gr, 0, none⟩ = some (.int .u32 0) := (blk_cell hRe.out 0).trans rfl; have r1 : we.cell? ⟨gr, 1, none⟩ = some (.slice none 0 0) := (blk_cell hRe.out 1).trans rfl; have r2 : we.cell? ⟨gr, 2, none⟩ = some (.slice none 0 0) := (blk_cell hRe.out 2).trans rfl; have r3 : we.cell? ⟨gr, 3, none⟩ = some (.bool false) := (blk_cell hRe.out 3).trans rfl; have r4 : we.cell? ⟨gr, 4, none⟩ = some (.int .i64 0) := (blk_cell hRe.out 4).trans rfl; have rf0 : we.frozen? ⟨gr, 0, none⟩ = false := blk_frozen hRe.out 0; have rf1 : we.frozen? ⟨gr, 1, none⟩ = false := blk_frozen hRe.out 1; have rf2 : we.frozen? ⟨gr, 2, none⟩ = false := blk_frozen hRe.out 2; have rf3 : we.frozen? ⟨gr, 3, none⟩ = false := blk_frozen hRe.out 3; have rf4 : we.frozen? ⟨gr, 4, none⟩ = false := blk_frozen hRe.out 4
        refine last_ (i := 11) (N := none) #[true, true, true, true, true, true, true, true, true, true, true, true, false] rfl rfl (by kernel_rfl) (by decide) (fun K hK => ?_)
        refine skip_ (w1 := ?_) (by rfl) rfl ?_ ?_
        rotate_left
        · go_simp
          rfl
        refine hK.out _ _ ?_
        clear hK K
        refine pu_ 12 5 ?_
        refine done_ (by kernel_rfl) ?_
        try go_wp2
        have hs := res_rows (s := q1) (f := -1) (d := false) (Kd.R_mono hDe.out.2.2.1 (fun _ _ => trivial)) hDe.out.2.2.2.2 hRe.out GR.out
        refine bodyPost_ret (results_ct rfl _ _ gr 30 #[.int .u32 q1, .slice an_ bl.length bn_, .slice none 0 0, .bool false, .int .i64 (-1)] (0, 0) _ rfl hs.1 Tryd.underlying30 rfl (by kernel_rfl)) rfl ?_
        exact ⟨_, _, rfl, hs.2.1, Kd.R_nil _ _ _ _ _, hs.2.2⟩
  · rw [if_neg h0] at h
    cases h
    have h0b : (r6 == 0) = false := beq_eq_false_iff_ne.mpr h0
    have h0c : (r6 != 0) = true := bne_iff_ne.mpr h0
    go_enter Tryd.func8, Tryd.ntmps8
    go_wp2_with (first | ((with_reducible refine gate_dst (N := 2) rfl ?_); refine bx_ (N := 2) (cs := #[.int .u32 a0_0, .slice A0_1 l0_1.length c0_1, .slice A0_2 l0_2.length c0_2, .bool a0_3, .int .i64 a0_4]) (t := 30) ?_; intro gd hgd w1 hx hbx; have BD1 := Aside0.mk hx; have K1 := Aside0.mk hbx; have GD := Aside0.mk (show w.heap.size ≤ gd by omega); obtain ⟨z0, z1, z2, z3, z4⟩ := cl5_ BD1; clear hx hbx hgd) | ((with_reducible refine gate_dst (N := 4) rfl ?_); refine bx_ (N := 4) (cs := #[.int .u32 0, .slice none 0 0, .slice none 0 0, .bool false, .int .i64 0]) (t := 30) ?_; intro gr hgr w2 hx hbx; have BR2 := Aside0.mk hx; have BD2 := Aside0.mk (blk_below BD1.out hbx); have K2 := Aside0.mk (below_step K1.out hbx); have NE := Aside0.mk (show gr ≠ gd by rw [hgr]; exact fun e => Nat.lt_irrefl _ (e ▸ blk_lt BD1.out)); have GR := Aside0.mk (show w.heap.size ≤ gr by rw [hgr]; exact K1.out.size); clear z0 z1 z2 z3 z4; obtain ⟨z0, z1, z2, z3, z4⟩ := cl5_ BD2; clear hx hbx hgr K1 BD1) | (go_at_call 14; refine (dev_Check.calls k a0_0 A0_1 c0_1 l0_1 A0_2 c0_2 l0_2 a0_3 a0_4 _ _ (Kd.C_below HR1.out K2.out) HC1.out (Kd.C_below HR2.out K2.out) HC2.out HY.out).mono ?_; rintro e w3 ⟨rfl, h3⟩; have BR3 := Aside0.mk (blk_below BR2.out h3); have BD3 := Aside0.mk (blk_below BD2.out h3); have K3 := Aside0.mk (below_step K2.out h3); clear z0 z1 z2 z3 z4; obtain ⟨z0, z1, z2, z3, z4⟩ := cl5_ BD3; obtain ⟨r0, r1, r2, r3, r4⟩ := cl5_ BR3; obtain ⟨rf0, rf1, rf2, rf3, rf4⟩ := fz5_ BR3; clear h3 BR2 BD2 K2))
    have hs := res_zero K3.out BR3.out GR.out
    refine bodyPost_ret (results_ct rfl _ _ gr 30 #[.int .u32 0, .slice none 0 0, .slice none 0 0, .bool false, .int .i64 0] (0, 0) _ rfl hs.1 Tryd.underlying30 rfl (by kernel_rfl)) rfl ?_
    exact ⟨_, _, rfl, Kd.R_nil _ _ _ _ _, Kd.R_nil _ _ _ _ _, hs.2⟩
end Go.Proofs.YthbljhmjppjcjaaDoor.Z
end
