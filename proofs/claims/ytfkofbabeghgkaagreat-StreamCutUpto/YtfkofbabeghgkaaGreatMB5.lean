/- This session's own texts, laid together (a part that several claims share). -/
import Derived.Test.YtfkofbabeghgkaaGreatMB1
import Derived.Test.YtfkofbabeghgkaaGreatMB2
import Derived.Test.YtfkofbabeghgkaaGreatMB4
import Derived.Deep.RegionHeld3
import Derived.Lib.UnsafeStr
import Derived.Lib.Strings
import Derived.ChangeKeysEq
import Derived.Deep.MidRow
import Derived.Test.YtfkofbabeghgkaaGreatMB3
import Derived.Test.YtfkofbabeghgkaaGreatRows
import Derived.Lib.SmallJoins
import Derived.Deep.Strs
import Derived.SizedLaws
import Derived.ChangeArms
open Go.RowKit Go.Proofs.YtfkofbabeghgkaaGreatW.PrintWords Go.Proofs.YtfkofbabeghgkaaGreatW.PrintLast Go.Proofs.YtfkofbabeghgkaaGreatW.PrintMore
set_option linter.unusedVariables false
set_option linter.unusedSimpArgs false
section
namespace Go.Proofs.YtfkofbabeghgkaaGreat.Z
theorem mkk_below {b : Nat} {w w' : World} (h : Below w.heap.size w w') : Mkk b w w' := fun k o hk _ _ => (h.block k (blk_lt hk)).trans hk
theorem mkk_blk {b g : Nat} {w w' : World} {cs : Array Value} {T : TypeId} {fz : Nat × Nat} (h : Mkk b w w') (hg : w.heap[g]? = some (.cells cs T fz)) (hne : g ≠ b) (hT : T ≠ 5) : w'.heap[g]? = some (.cells cs T fz) :=
  h g _ hg (fun e => hne (Option.some.inj e)) (fun c fz' e => by injection e with _ e _; exact hT e)
set_option maxRecDepth 100000 in
theorem mk_num (k : Nat) (B b : Nat) (l : List UInt8) (n wd : Int) (s : ByteArray) (c : Int) (w : World) (h : MkR w B b l) (hN : pack_Number.f k n wd = some (s, c)) (hlen : l.length + s.size ≤ 140737488355328) :
    Calls Tryz.prog 26 #[.pointer (some ⟨b, 0, none⟩), .int .u64 n, .int .i64 wd] w fun e w' => e = .returned (.tuple #[]) ∧ MkR w' B b (l ++ s.data.toList) ∧ Below B w w' ∧ Mkk b w w' := by
  have HM := ak_ h
  have HN := ak_ hN
  have HL := ak_ hlen
  clear h hN hlen
  go_enter Tryz.func26, Tryz.ntmps26
  go_wp2_with (first
    | (go_at_call 50; refine (pack_Number.calls k n wd s c _ HN.out).mono ?_; rintro e w1 ⟨rfl, hb⟩; have M1 := ak_ (HM.out.below hb); have B1 := ak_ (mk_bel hb (Nat.le_of_lt (Nat.lt_of_le_of_lt HM.out.lt.1 HM.out.lt.2))); have K1 := ak_ (mkk_below (b := b) hb); clear hb)
    | (go_at_call 24; refine (mk_ws B b l s _ M1.out HL.out).mono ?_; rintro e w2 ⟨rfl, hm, hb, hk⟩; have M2 := ak_ hm; have B2 := ak_ hb; have K2 := ak_ hk; clear hm hb hk))
  go_end0
  exact ⟨rfl, M2.out, B1.out.trans B2.out, K1.out.trans K2.out⟩
set_option maxRecDepth 100000 in
theorem mk_text (k : Nat) (B b : Nat) (l : List UInt8) (s : ByteArray) (r : List UInt8) (w : World) (h : MkR w B b l) (hT : mtF k l s = some r) :
    Calls Tryz.prog 28 #[.pointer (some ⟨b, 0, none⟩), .string s] w fun e w' => e = .returned (.tuple #[]) ∧ MkR w' B b r ∧ Below B w w' ∧ Mkk b w w' := by
  unfold mtF at hT
  obtain ⟨⟨t1, t2⟩, hN, hT⟩ := Option.bind_eq_some_iff.mp hT
  split at hT
  case isFalse => cases hT
  case isTrue hlen =>
  obtain rfl := Option.some.inj hT
  have HM := ak_ h
  have HN := ak_ hN
  have HL := ak_ hlen
  clear h hN hlen hT
  go_enter Tryz.func28, Tryz.ntmps28
  go_wp2_with (first
    | (go_at_call 51; refine (pack_Text.calls k s t1 t2 _ HN.out).mono ?_; rintro e w1 ⟨rfl, hb⟩; have M1 := ak_ (HM.out.below hb); have B1 := ak_ (mk_bel hb (Nat.le_of_lt (Nat.lt_of_le_of_lt HM.out.lt.1 HM.out.lt.2))); have K1 := ak_ (mkk_below (b := b) hb); clear hb)
    | (go_at_call 24; refine (mk_ws B b l t1 _ M1.out HL.out).mono ?_; rintro e w2 ⟨rfl, hm, hb, hk⟩; have M2 := ak_ hm; have B2 := ak_ hb; have K2 := ak_ hk; clear hm hb hk))
  go_end0
  exact ⟨rfl, M2.out, B1.out.trans B2.out, K1.out.trans K2.out⟩
set_option maxRecDepth 100000 in
theorem may_calls (k : Nat) (A : Option Addr) (c : Nat) (l : List VIT) (r : Bool) (w : World) (hC : Kd.C k77 w A l.length l) (hc : l.length ≤ c) (h : mayF k l = some r) :
    Calls Tryz.prog 22 #[.slice A l.length c] w fun e w' => e = .returned (.bool r) ∧ Below w.heap.size w w' := by
  unfold mayF at h
  by_cases h0 : l.length = 0
  · rw [if_pos h0] at h
    obtain rfl := Option.some.inj h
    rw [h0]
    clear h hC hc h0
    go_enter Tryz.func22, Tryz.ntmps22
    go_wp2
    go_ret
    exact ⟨rfl, Below.refl _ _⟩
  · rw [if_neg h0] at h
    obtain ⟨q, hq, h⟩ := Option.bind_eq_some_iff.mp h
    obtain rfl := Option.some.inj h
    have HC := ak_ hC
    have HP := ak_ hc
    have HQ := ak_ hq
    have e1 : ((l.length : Int) == 0) = false := beq_eq_false_iff_ne.2 (by omega)
    have e2 : ¬ (l = []) := fun h_ => h0 (by rw [h_]; rfl)
    clear h hC hc hq h0
    go_enter Tryz.func22, Tryz.ntmps22
    go_wp2_with (go_at_call 20; refine (dirs_Check.calls k A c l q _ HC.out HP.out HQ.out).mono ?_; rintro e w1 ⟨rfl, hb⟩; have B1 := ak_ hb; clear hb)
    go_ret
    exact ⟨rfl, B1.out⟩
theorem hash_len32 {k : Nat} {s : ByteArray} {r : List Int} (h : hash_Sum.f k s = some r) : r.length = 32 := by
  unfold hash_Sum.f at h
  obtain ⟨t, _, h⟩ := Option.bind_eq_some_iff.mp h
  by_cases hc : s.size + t.size ≤ 9223372036854775807
  · rw [if_pos hc] at h
    obtain ⟨q, _, h⟩ := Option.bind_eq_some_iff.mp h
    rw [← Option.some.inj h]
    unfold outF
    rw [List.length_map, List.length_range]
  · rw [if_neg hc] at h; cases h
def arrV (l : List Int) : Array Value := (l.map (fun x => Value.int .u8 x)).toArray
theorem arrV_size (l : List Int) : (arrV l).size = l.length := by simp [arrV]
theorem arrV_one (l : List Int) : (arrV l).all (·.oneCell') = true := bs_one l
theorem info32 : (Tryz.prog.info? 28).map (·.size) = some 32 := by kernel_rfl
theorem mk_bel2 {w wm wr : World} {gm : Nat} (h : Below w.heap.size w wm) (hg : w.heap.size ≤ gm) (k : Below gm wm wr) : Below w.heap.size w wr := h.trans (mk_bel k hg)
set_option maxRecDepth 100000 in
set_option maxHeartbeats 6400000 in
theorem stream_Mark.calls (k : Nat) (A0 : Option Addr) (c0 : Nat) (l0 : List VIT) (r1 : List Int) (r2 : Int) (w : World) (hr0 : Kd.C k77 w A0 l0.length l0) (hc0 : l0.length ≤ c0) (h : markF k l0 = some (r1, r2)) :
    Calls Tryz.prog 16 #[.slice A0 l0.length c0] w fun e w' => e = .returned (.tuple #[.agg (arrV r1), .int .i64 r2]) ∧ Below w.heap.size w w' := by
  unfold markF at h
  obtain ⟨c, hc, h⟩ := Option.bind_eq_some_iff.mp h
  have HC := ak_ hr0
  have HP := ak_ hc0
  have HK := ak_ hc
  by_cases h0 : c = 0
  · rw [if_pos h0] at h
    subst h0
    obtain ⟨b, hb, h⟩ := Option.bind_eq_some_iff.mp h
    obtain ⟨hh, hs, h⟩ := Option.bind_eq_some_iff.mp h
    have h4 := Option.some.inj h
    simp only [Prod.mk.injEq] at h4
    obtain ⟨rfl, rfl⟩ := h4
    have HB := ak_ hb
    have HS := ak_ hs
    have HMX := ak_ (Kd.C_max hr0)
    clear h hb hs hr0 hc0 hc
    go_enter Tryz.func16, Tryz.ntmps16
    go_wp2_with (first
      | ((with_reducible refine gate_dst (N := 2) rfl ?_); refine box_event ?hg (N := 2) ?hd (cs := ((List.replicate 32 (0 : Int)).map (fun x => Value.int .u8 x)).toArray) (t := 28) ?hr ?_; (case hd => rfl); (case hg => rfl); (case hr => first | (go_simp; done) | (go_simp; rfl)); intro go hgo w1 hx hb; have O1 := ak_ (show w1.heap[go]? = some (bs 28 (List.replicate 32 0)) from hx); have B1 := ak_ hb; have GO := ak_ (show w.heap.size ≤ go by omega); clear hx hb hgo)
      | (go_at_call 40; refine (item_Check.calls k A0 c0 l0 0 _ (Kd.C_below HC.out B1.out) HP.out HK.out).mono ?_; rintro e w2 ⟨rfl, hb⟩; have O2 := ak_ (blk_below O1.out hb); have B2 := ak_ (below_step B1.out hb); clear hb)
      | ((with_reducible refine gate_dst (N := 15) rfl ?_); refine box_event ?hg (N := 15) ?hd (cs := #[.pointer none, .slice none 0 0]) (t := 51) ?hr ?_; (case hd => rfl); (case hg => rfl); (case hr => first | (go_simp; done) | (go_simp; rfl)); intro gm hgm wm hx hb; have MM := ak_ (MkR.new (B := gm) (Nat.le_refl _) hx); have OM := ak_ (blk_below O2.out hb); have BM := ak_ (below_step B2.out hb); have GM := ak_ (show go < gm ∧ w.heap.size ≤ gm from ⟨by rw [hgm]; exact blk_lt O2.out, by have := B2.out.size; omega⟩); clear hx hb hgm))
    go_loopw [18] (fun vi wr => ∃ (i : Int) (acc : List UInt8), vi = .int .i64 i ∧ Aside0 (0 ≤ i ∧ i ≤ l0.length) ∧ Aside0 (MkR wr gm gm acc) ∧ Aside0 (Below gm wm wr) ∧ Aside0 (mkL k (l0.drop i.toNat) acc = some b)) (fun vi _ => l0.length - (intOf vi).toNat)
    case atStart => exact ⟨0, [], rfl, ⟨by omega⟩, MM, ⟨Below.refl _ _⟩, HB⟩
    case round =>
      obtain ⟨i, acc, rfl, HI, HM, HR, HL⟩ := hrel
      obtain ⟨hi0, hi1⟩ := HI.out
      by_cases hlt : i < (l0.length : Int)
      · have hlt2 : decide (i < (l0.length : Int)) = true := decide_eq_true hlt
        have p0 := eq_true hi0
        have p1 := eq_true hlt
        obtain ⟨x, hx⟩ : ∃ x, x = rd_T77 l0 i := ⟨_, rfl⟩
        obtain ⟨ad, hAd, k0, k1⟩ := at_T77 (Kd.C_below HC.out (mk_bel2 BM.out GM.out.2 HR.out)) i hi0 hlt
        subst hAd
        rw [← hx] at k0 k1
        have hR0 := HL.out
        rw [drop_IT hi0 hlt, ← hx, mkL] at hR0
        obtain ⟨a1, ha1, hR0⟩ := Option.bind_eq_some_iff.mp hR0
        obtain ⟨a2, ha2, hR0⟩ := Option.bind_eq_some_iff.mp hR0
        have HA1 := ak_ ha1
        have HA2 := ak_ ha2
        have HL2 := ak_ hR0
        have ew : wrap64 (i + 1) = i + 1 := by have := HMX.out; unfold wrap64; omega
        have EW := ak_ ew
        have LT := ak_ hlt
        clear hlt hi0 hi1 ew hx hR0 ha1 ha2
        go_wp2_with (first
          | ((with_reducible refine gate_dst (N := 7) rfl ?_); refine var_event (N := 7) (T := 77) (n := 2) (zc := #[.string ⟨#[]⟩, .string ⟨#[]⟩]) (cs := #[.string x.f0, .string x.f1]) rfl rfl rfl (.tmp 21) rfl rfl ?hr (by kernel_rfl) rfl rfl rfl ?hx ?hN ?_; (case hx => intro p_; rfl); (case hN => intro p_; rfl); (case hr => first | (go_simp; done) | (go_simp; rfl)); intro gx hgx w7 hx7 hb7; have X7 := ak_ hx7; have B7 := ak_ hb7; have M7 := ak_ (HM.out.below hb7); have GX := ak_ (show gx ≠ gm by have := HM.out.lt.2; omega); have y0 : w7.cell? ⟨gx, 0, none⟩ = some (.string x.f0) := (blk_cell hx7 0).trans rfl; clear hx7 hb7 hgx k0 k1)
          | (go_at_call 28; with_reducible refine (mk_text k gm gm acc x.f0 a1 _ M7.out HA1.out).mono ?_; rintro e w8 ⟨rfl, hm, hb, hk⟩; have M8 := ak_ hm; have B8 := ak_ hb; have X8 := ak_ (mkk_blk hk X7.out GX.out (by decide)); have y1 : w8.cell? ⟨gx, 1, none⟩ = some (.string x.f1) := (blk_cell X8.out 1).trans rfl; clear hm hb hk y0)
          | (go_at_call 28; with_reducible refine (mk_text k gm gm a1 x.f1 a2 _ M8.out HA2.out).mono ?_; rintro e w9 ⟨rfl, hm, hb, hk⟩; have M9 := ak_ hm; have B9 := ak_ hb; clear hm hb hk y1))
        have hi := HI.out
        have hl := LT.out
        go_roundw
        case rel => exact ⟨i + 1, a2, by rw [EW.out], ⟨by omega⟩, M9, ⟨HR.out.trans (((mk_bel B7.out (Nat.le_of_lt HM.out.lt.2)).trans B8.out).trans B9.out)⟩, HL2⟩
        case measure =>
          simp [EW.out, intOf]
          omega
      · have hge : decide (i < (l0.length : Int)) = false := decide_eq_false hlt
        have hR := HL.out
        rw [List.drop_eq_nil_of_le (by omega), mkL] at hR
        obtain rfl := Option.some.inj hR
        have ON := ak_ ((HR.out.block go GM.out.1).trans OM.out)
        have BN := ak_ (mk_bel2 BM.out GM.out.2 HR.out)
        have HZ := ak_ (hash_len32 HS.out)
        clear hlt hi0 hi1 hR HL
        go_wp2_with (first
          | (go_at_call 30; refine (mk_string gm gm acc _ HM.out).mono ?_; rintro e w5 ⟨rfl, hm, hb, hk⟩; have O5 := ak_ ((hb.block go GM.out.1).trans ON.out); have B5 := ak_ (BN.out.trans (mk_bel hb GM.out.2)); clear hm hb hk)
          | (go_at_call 41; refine (hash_Sum.calls k _ hh _ HS.out).mono ?_; rintro e w6 ⟨rfl, hb⟩; have O6 := ak_ (blk_below O5.out hb); have B6 := ak_ (below_step B5.out hb); obtain ⟨V, hV⟩ : ∃ V : Array Value, V = arrV hh := ⟨_, rfl⟩; rw [show (hh.map (fun x => Value.int .u8 x)).toArray = V from hV.symm]; have HV := ak_ hV; have HI6 := ak_ (show (Tryz.prog.info? 28).map (·.size) = some V.size by rw [hV, arrV_size, HZ.out]; exact info32); have HO6 := ak_ (show V.all (·.oneCell') = true by rw [hV]; exact arrV_one _); have HS6 := ak_ (show ((List.replicate 32 (0 : Int)).map (fun x => Value.int .u8 x)).toArray.size = V.size by rw [hV, arrV_size, HZ.out]; simp); clear hb hV)
          | (refine wpList_store_row rfl 28 _ _ rfl go _ rfl rfl 28 _ O6.out HI6.out HS6.out HO6.out ?_))
        (try simp only [Exit.inBlock, Exit.then])
        refine bodyPost_ret (results_ct rfl _ _ go 28 _ (0, 0) _ rfl (setRow_heap _ go _ _ 28 (0, 0) O6.out) Tryz.underlying28 rfl HI6.out) rfl ?_
        exact ⟨by rw [← HV.out]; rfl, below_setRow B6.out GO.out _⟩
  · rw [if_neg h0] at h
    have h4 := Option.some.inj h
    simp only [Prod.mk.injEq] at h4
    obtain ⟨rfl, rfl⟩ := h4
    have e1 : (c != 0) = true := bne_iff_ne.2 h0
    clear h hr0 hc0 hc h0
    go_enter Tryz.func16, Tryz.ntmps16
    go_wp2_with (first
      | ((with_reducible refine gate_dst (N := 2) rfl ?_); refine box_event ?hg (N := 2) ?hd (cs := ((List.replicate 32 (0 : Int)).map (fun x => Value.int .u8 x)).toArray) (t := 28) ?hr ?_; (case hd => rfl); (case hg => rfl); (case hr => first | (go_simp; done) | (go_simp; rfl)); intro go hgo w1 hx hb; have O1 := ak_ (show w1.heap[go]? = some (bs 28 (List.replicate 32 0)) from hx); have B1 := ak_ hb; have GO := ak_ (show w.heap.size ≤ go by omega); clear hx hb hgo)
      | (go_at_call 40; refine (item_Check.calls k A0 c0 l0 c _ (Kd.C_below HC.out B1.out) HP.out HK.out).mono ?_; rintro e w2 ⟨rfl, hb⟩; have O2 := ak_ (blk_below O1.out hb); have B2 := ak_ (below_step B1.out hb); clear hb)
      | (refine wpList_store_row rfl 28 _ _ rfl go (arrV (List.replicate 32 0)) rfl rfl 28 _ O2.out (by rw [arrV_size]; exact info32) (by simp [arrV_size]) (arrV_one _) ?_))
    (try simp only [Exit.inBlock, Exit.then])
    refine bodyPost_ret (results_ct rfl _ _ go 28 _ (0, 0) _ rfl (setRow_heap _ go _ _ 28 (0, 0) O2.out) Tryz.underlying28 rfl (by rw [arrV_size]; exact info32)) rfl ?_
    exact ⟨rfl, below_setRow B2.out GO.out _⟩
end Go.Proofs.YtfkofbabeghgkaaGreat.Z
end

section
namespace Go.Proofs.YtfkofbabeghgkaaGreat.Z
def tkCs (l : ByteArray) (b : Bool) (bs : List Int) (v : Value) : Array Value := (.string l :: .bool b :: (bs.map (fun x => Value.int .u8 x) ++ [v])).toArray
theorem tkCs34 {l : ByteArray} {b : Bool} {bs : List Int} {v : Value} (h : bs.length = 32) : (tkCs l b bs v)[34]? = some v := by
  unfold tkCs
  rw [List.getElem?_toArray, List.getElem?_cons_succ, List.getElem?_cons_succ, List.getElem?_append_right (by rw [List.length_map, h]; decide), List.length_map, h]
  rfl
theorem tkCs_s0 (l l' : ByteArray) (b : Bool) (bs : List Int) (v : Value) : (tkCs l b bs v).setIfInBounds 0 (.string l') = tkCs l' b bs v := by simp [tkCs]
theorem tkCs_s1 (l : ByteArray) (b b' : Bool) (bs : List Int) (v : Value) : (tkCs l b bs v).setIfInBounds 1 (.bool b') = tkCs l b' bs v := by simp [tkCs]
theorem tkCs_s34 (l : ByteArray) (b : Bool) {bs : List Int} (v v' : Value) (h : bs.length = 32) : (tkCs l b bs v).setIfInBounds 34 v' = tkCs l b bs v' := by
  unfold tkCs
  rw [List.setIfInBounds_toArray, List.set_cons_succ, List.set_cons_succ, List.set_append_right _ _ (by rw [List.length_map, h]; decide), List.length_map, h]
  rfl
def TkR (w : World) (g B : Nat) (bs : List Int) (s : TkS) (v : Value) : Prop :=
  w.heap[g]? = some (.cells (tkCs s.left s.bad bs v) 72 (0, 0)) ∧ k60.R 60 w B (fun _ => True) v s.list ∧ bs.length = 32 ∧ g < B
theorem rowK_set {α : Type} {d : Kd α} {e : TypeId} {w : World} {base g : Nat} {v : Value} {l : List α} (h : d.R e w base (fun _ => True) v l) (hg : g < base) (j : Nat) (u : Value) : d.R e (w.setCell ⟨g, j, none⟩ u) base (fun _ => True) v l :=
  Kd.R_mono (Kd.R_move (Kd.R_bound h) (fun k hk => Below.heap_setCell w ⟨g, j, none⟩ u k (by have := hk.2.1; show k ≠ g; omega))) (fun _ _ => trivial)
theorem rowK_low {α : Type} {d : Kd α} {e : TypeId} {w : World} {base g : Nat} {v : Value} {l : List α} (h : d.R e w base (fun _ => True) v l) (hg : g < base) : some g ≠ v.ownBlock := by
  intro e
  obtain ⟨inner, ho⟩ := Kd.R_own h
  have := own_base ho g e.symm
  omega
theorem rowK_base {α : Type} {d : Kd α} {e : TypeId} {w : World} {base : Nat} {v : Value} {l : List α} (h : d.R e w base (fun _ => True) v l) (b : Nat) (e : v.ownBlock = some b) : base ≤ b := by
  obtain ⟨inner, ho⟩ := Kd.R_own h
  exact own_base ho b e
theorem Fr.setNew {g : Nat} {w0 w : World} (h : Fr g w0 w) {gx : Nat} (hg : w0.heap.size ≤ gx) (j : Nat) (u : Value) : Fr g w0 (w.setCell ⟨gx, j, none⟩ u) :=
  ⟨⟨Nat.le_trans h.1.1 (by simp [World.setCell]), fun i hi hn hr => (Below.heap_setCell w ⟨gx, j, none⟩ u i (fun e => by have e : i = gx := e; omega)).trans (h.1.2 i hi hn hr)⟩, fun B a b => (h.2 B a b).setCell (p := ⟨gx, j, none⟩) (Nat.le_trans b hg) u⟩
theorem Fr.blk {g gx : Nat} {w w' : World} {o : Obj} (h : Fr g w w') (hx : w.heap[gx]? = some o) (hn : gx ≠ g) : w'.heap[gx]? = some o := (h.1.2 gx (blk_lt hx) hn (by simp)).trans hx
theorem TkR.below {w w' : World} {g B : Nat} {bs : List Int} {s : TkS} {v : Value} (h : TkR w g B bs s v) (hb : Below w.heap.size w w') : TkR w' g B bs s v := by
  obtain ⟨h1, h2, h3⟩ := h
  exact ⟨blk_below h1 hb, Kd.R_below h2 hb, h3⟩
theorem TkR.set0 {w : World} {g B : Nat} {bs : List Int} {l : ByteArray} {b : Bool} {cs : List Ch} {v : Value} (h : TkR w g B bs ⟨l, b, cs⟩ v) (l' : ByteArray) : TkR (w.setCell ⟨g, 0, none⟩ (.string l')) g B bs ⟨l', b, cs⟩ v := by
  obtain ⟨h1, h2, h3, h4⟩ := h
  exact ⟨(blk_set h1 0 _).trans (by rw [tkCs_s0]), rowK_set h2 h4 0 _, h3, h4⟩
theorem TkR.set1 {w : World} {g B : Nat} {bs : List Int} {l : ByteArray} {b : Bool} {cs : List Ch} {v : Value} (h : TkR w g B bs ⟨l, b, cs⟩ v) (b' : Bool) : TkR (w.setCell ⟨g, 1, none⟩ (.bool b')) g B bs ⟨l, b', cs⟩ v := by
  obtain ⟨h1, h2, h3, h4⟩ := h
  exact ⟨(blk_set h1 1 _).trans (by rw [tkCs_s1]), rowK_set h2 h4 1 _, h3, h4⟩
theorem TkR.push {w w' : World} {g B : Nat} {bs : List Int} {l : ByteArray} {b : Bool} {cs : List Ch} {v v' : Value} {c : Ch} (h1 : w.heap[g]? = some (.cells (tkCs l b bs v) 72 (0, 0))) (h2 : k60.R 60 w B (fun _ => True) v cs) (h3 : bs.length = 32) (h4 : g < B)
    (hR : k60.R 60 w' B (fun _ => True) v' (cs ++ [c])) (hgr : w.grownBy w' v.ownBlock) : TkR (w'.setCell ⟨g, 34, none⟩ v') g B bs ⟨l, b, cs ++ [c]⟩ v' :=
  ⟨(blk_set (blk_grown h1 hgr (rowK_low h2 h4)) 34 _).trans (by rw [tkCs_s34 _ _ _ _ h3]), rowK_set hR h4 34 _, h3, h4⟩
theorem row_only {α : Type} {d : Kd α} (hflat : Flat d) {e : TypeId} {w : World} {base gx : Nat} {v : Value} {l : List α} (h : d.R e w base (fun _ => True) v l) (hg : some gx ≠ v.ownBlock) : d.R e w base (fun k => k ≠ gx) v l :=
  ⟨fun k hk e => hg (by rw [hk, e]), h.2.imp_ (fun _ _ hq => hflat (d.K_of_M hq))⟩
theorem TkR.old {w : World} {g B : Nat} {bs : List Int} {s : TkS} {v : Value} (h : TkR w g B bs s v) {gx : Nat} (hx : w.heap.size ≤ gx) : some gx ≠ v.ownBlock := fun e => by
  have := ((Kd.R_bound h.2.1).1 gx e.symm).2.2.1
  omega
theorem TkR.far {w : World} {g B : Nat} {bs : List Int} {s : TkS} {v : Value} (h : TkR w g B bs s v) {gx : Nat} (hg : gx ≠ g) (hx : some gx ≠ v.ownBlock) (j : Nat) (u : Value) : TkR (w.setCell ⟨gx, j, none⟩ u) g B bs s v := by
  obtain ⟨h1, h2, h3, h4⟩ := h
  exact ⟨(Below.heap_setCell w ⟨gx, j, none⟩ u g (fun e => hg e.symm)).trans h1, Kd.R_mono (Kd.R_move (row_only (fun h => h) h2 hx) (fun k hk => Below.heap_setCell w ⟨gx, j, none⟩ u k hk)) (fun _ _ => trivial), h3, h4⟩
set_option maxRecDepth 100000 in
set_option maxHeartbeats 1600000 in
theorem tk_num (k g B : Nat) (bs : List Int) (s s' : TkS) (wd r : Int) (v : Value) (w : World) (h : TkR w g B bs s v) (hN : tkN k s wd = some (r, s')) :
    Calls Tryz.prog 61 #[.pointer (some ⟨g, 0, none⟩), .int .i64 wd] w fun e w' => e = .returned (.int .u64 r) ∧ TkR w' g B bs s' v ∧ Fr g w w' := by
  unfold tkN at hN
  obtain ⟨⟨q1, q2, q3⟩, hq, hN⟩ := Option.bind_eq_some_iff.mp hN
  have h4 := Option.some.inj hN
  simp only [Prod.mk.injEq] at h4
  obtain ⟨rfl, rfl⟩ := h4
  obtain ⟨l, bd, cs⟩ := s
  dsimp only at hq ⊢
  have HT := ak_ h
  have HQ := ak_ hq
  have q0 : w.cell? ⟨g, 0, none⟩ = some (.string l) := (blk_cell h.1 0).trans rfl
  clear hN hq h
  cases bd with
  | true =>
    go_enter Tryz.func61, Tryz.ntmps61
    go_wp2_with (go_at_call 60; refine (pack_TakeNumber.calls k l wd q1 q2 q3 _ HQ.out).mono ?_; rintro e w1 ⟨rfl, hd⟩; have B1 := ak_ hd.below; have T1 := ak_ (HT.out.below B1.out); clear q0 hd; have h1 := T1.out.1; have q0 : w1.cell? ⟨g, 0, none⟩ = some (.string l) := (blk_cell h1 0).trans rfl; have q1_ : w1.cell? ⟨g, 1, none⟩ = some (.bool true) := (blk_cell h1 1).trans rfl; have f0 : w1.frozen? ⟨g, 0, none⟩ = false := blk_frozen h1 0; have h2 := blk_set h1 0 (.string q2); have q2_ : (w1.setCell ⟨g, 0, none⟩ (.string q2)).cell? ⟨g, 1, none⟩ = some (.bool true) := (blk_cell h2 1).trans (by rw [tkCs_s0]; rfl); have f2 : (w1.setCell ⟨g, 0, none⟩ (.string q2)).frozen? ⟨g, 1, none⟩ = false := blk_frozen h2 1; clear h1 h2)
    go_ret
    exact ⟨rfl, (T1.out.set0 q2).set1 true, ((Fr.of_below B1.out).setg 0 _).setg 1 _⟩
  | false =>
    go_enter Tryz.func61, Tryz.ntmps61
    go_wp2_with (go_at_call 60; refine (pack_TakeNumber.calls k l wd q1 q2 q3 _ HQ.out).mono ?_; rintro e w1 ⟨rfl, hd⟩; have B1 := ak_ hd.below; have T1 := ak_ (HT.out.below B1.out); clear q0 hd; have h1 := T1.out.1; have q0 : w1.cell? ⟨g, 0, none⟩ = some (.string l) := (blk_cell h1 0).trans rfl; have q1_ : w1.cell? ⟨g, 1, none⟩ = some (.bool false) := (blk_cell h1 1).trans rfl; have f0 : w1.frozen? ⟨g, 0, none⟩ = false := blk_frozen h1 0; have h2 := blk_set h1 0 (.string q2); have q2_ : (w1.setCell ⟨g, 0, none⟩ (.string q2)).cell? ⟨g, 1, none⟩ = some (.bool false) := (blk_cell h2 1).trans (by rw [tkCs_s0]; rfl); have f2 : (w1.setCell ⟨g, 0, none⟩ (.string q2)).frozen? ⟨g, 1, none⟩ = false := blk_frozen h2 1; clear h1 h2)
    go_ret
    exact ⟨rfl, (T1.out.set0 q2).set1 (q3 != 0), ((Fr.of_below B1.out).setg 0 _).setg 1 _⟩
set_option maxRecDepth 100000 in
set_option maxHeartbeats 1600000 in
theorem tk_text (k g B : Nat) (bs : List Int) (s s' : TkS) (r : ByteArray) (v : Value) (w : World) (h : TkR w g B bs s v) (hN : tkT k s = some (r, s')) :
    Calls Tryz.prog 93 #[.pointer (some ⟨g, 0, none⟩)] w fun e w' => e = .returned (.string r) ∧ TkR w' g B bs s' v ∧ Fr g w w' := by
  unfold tkT at hN
  obtain ⟨⟨q1, q2, q3⟩, hq, hN⟩ := Option.bind_eq_some_iff.mp hN
  have h4 := Option.some.inj hN
  simp only [Prod.mk.injEq] at h4
  obtain ⟨rfl, rfl⟩ := h4
  obtain ⟨l, bd, cs⟩ := s
  dsimp only at hq ⊢
  have HT := ak_ h
  have HQ := ak_ hq
  have q0 : w.cell? ⟨g, 0, none⟩ = some (.string l) := (blk_cell h.1 0).trans rfl
  clear hN hq h
  cases bd with
  | true =>
    go_enter Tryz.func93, Tryz.ntmps93
    go_wp2_with (go_at_call 119; refine (pack_TakeText.calls k l q1 q2 q3 _ HQ.out).mono ?_; rintro e w1 ⟨rfl, hd⟩; have B1 := ak_ hd.below; have T1 := ak_ (HT.out.below B1.out); clear q0 hd; have h1 := T1.out.1; have q0 : w1.cell? ⟨g, 0, none⟩ = some (.string l) := (blk_cell h1 0).trans rfl; have q1_ : w1.cell? ⟨g, 1, none⟩ = some (.bool true) := (blk_cell h1 1).trans rfl; have f0 : w1.frozen? ⟨g, 0, none⟩ = false := blk_frozen h1 0; have h2 := blk_set h1 0 (.string q2); have q2_ : (w1.setCell ⟨g, 0, none⟩ (.string q2)).cell? ⟨g, 1, none⟩ = some (.bool true) := (blk_cell h2 1).trans (by rw [tkCs_s0]; rfl); have f2 : (w1.setCell ⟨g, 0, none⟩ (.string q2)).frozen? ⟨g, 1, none⟩ = false := blk_frozen h2 1; clear h1 h2)
    go_ret
    exact ⟨rfl, (T1.out.set0 q2).set1 true, ((Fr.of_below B1.out).setg 0 _).setg 1 _⟩
  | false =>
    go_enter Tryz.func93, Tryz.ntmps93
    go_wp2_with (go_at_call 119; refine (pack_TakeText.calls k l q1 q2 q3 _ HQ.out).mono ?_; rintro e w1 ⟨rfl, hd⟩; have B1 := ak_ hd.below; have T1 := ak_ (HT.out.below B1.out); clear q0 hd; have h1 := T1.out.1; have q0 : w1.cell? ⟨g, 0, none⟩ = some (.string l) := (blk_cell h1 0).trans rfl; have q1_ : w1.cell? ⟨g, 1, none⟩ = some (.bool false) := (blk_cell h1 1).trans rfl; have f0 : w1.frozen? ⟨g, 0, none⟩ = false := blk_frozen h1 0; have h2 := blk_set h1 0 (.string q2); have q2_ : (w1.setCell ⟨g, 0, none⟩ (.string q2)).cell? ⟨g, 1, none⟩ = some (.bool false) := (blk_cell h2 1).trans (by rw [tkCs_s0]; rfl); have f2 : (w1.setCell ⟨g, 0, none⟩ (.string q2)).frozen? ⟨g, 1, none⟩ = false := blk_frozen h2 1; clear h1 h2)
    go_ret
    exact ⟨rfl, (T1.out.set0 q2).set1 (q3 != 0), ((Fr.of_below B1.out).setg 0 _).setg 1 _⟩
end Go.Proofs.YtfkofbabeghgkaaGreat.Z
end

section
namespace Go.Proofs.YtfkofbabeghgkaaGreat.Z
open Go.Proofs.YtfkofbabeghgkaaGreat.PM
def chF (k : Nat) (acc : Bs) (c : Ch) : Option Bs := if acc.length + 1 ≤ 140737488355328 then (if c.f1 = true then (mtF k (acc ++ [1]) c.f0).bind fun a => mtF k a c.f2 else mtF k (acc ++ [0]) c.f0) else none
def chL (k : Nat) : List Ch → Bs → Option Bs
  | [], acc => some acc
  | c :: r, acc => (chF k acc c).bind fun a => chL k r a
theorem chF.mono (acc : Bs) (c : Ch) : ∀ k, LeO (chF k acc c) (chF (k + 1) acc c) := fun k => LeO.ite (LeO.ite (LeO.bind (mtF.mono _ _ _) (fun _ => mtF.mono _ _ _)) (mtF.mono _ _ _)) (LeO.none _)
theorem chL.mono : ∀ (l : List Ch) (acc : Bs) (k : Nat), LeO (chL k l acc) (chL (k + 1) l acc)
  | [], acc, k => LeO.refl _
  | c :: r, acc, k => by
    unfold chL
    exact LeO.bind (chF.mono _ _ _) (fun a => chL.mono r a k)
def sendF (k : Nat) (a b : List It) : Option (ByteArray × Int) := (mayF k a).bind fun m => if m = true then (dirs_Check.f k b).bind fun c => if c = 0 then
    (item_Diff.f k a b).bind fun d => (markF k a).bind fun q => (pack_Number.f k (d.1.length : Int) 4).bind fun n => if d.1.length ≤ 1099511627776 ∧ n.1.size ≤ 8 then (chL k d.1 ([67, 83] ++ (octs q.1 ++ n.1.data.toList))).bind fun body =>
      (pack_Number.f k (sumC (ba body) (ba body).size 0 0) 4).bind fun z => if body.length + z.1.size ≤ 140737488355328 then some (ba (body ++ z.1.data.toList), 0) else none
      else none
    else some (⟨#[]⟩, 9)
  else some (⟨#[]⟩, 9)
theorem sendF.mono (a b : List It) : ∀ k, LeO (sendF k a b) (sendF (k + 1) a b) := fun k =>
  LeO.bind (mayF.mono _ _) (fun _ => LeO.ite (LeO.bind (dirs_Check.mono _ _) (fun _ => LeO.ite (LeO.bind (item_Diff.mono _ _ _) (fun _ => LeO.bind (markF.mono _ _) (fun _ => LeO.bind (pack_Number.mono _ _ _) (fun _ => LeO.ite (LeO.bind (chL.mono _ _ _) (fun _ => LeO.bind (pack_Number.mono _ _ _) (fun _ => LeO.ite (LeO.refl _) (LeO.none _)))) (LeO.none _))))) (LeO.refl _))) (LeO.refl _))
theorem chB_len {l : List Ch} (h : ∀ c ∈ l, okc c = true) : (l.flatMap chB).length ≤ 213 * l.length := by
  induction l with
  | nil => exact Nat.le_refl _
  | cons c r ih =>
    have := ih (fun y hy => h y (List.mem_cons_of_mem _ hy))
    have hc := okc_parts (h c (List.mem_cons_self ..))
    have h0 := txtB_len (ck c)
    have e3 : (ck c).length = c.f0.toList.length := rfl
    have h2 := txtB_len c.f2.data.toList
    rw [List.flatMap_cons, List.length_append, List.length_cons]
    have e : (chB c).length ≤ 213 := by
      unfold chB
      by_cases h1 : c.f1 = true
      · rw [if_pos h1, List.length_cons, List.length_append]; omega
      · rw [if_neg h1, List.length_cons]; omega
    omega
theorem chF_f (acc : Bs) (c : Ch) (hc : okc c = true) (ha : acc.length + (chB c).length ≤ 140737488355328) : Ev (fun k => chF k acc c) (acc ++ chB c) := by
  have h := okc_parts hc
  have e0 : c.f0.data.toList = ck c := (ByteArray.toList_eq _).symm
  have s0 : c.f0.size ≤ 65535 := by
    have : c.f0.size = c.f0.toList.length := by rw [ByteArray.toList_eq, Array.length_toList]; rfl
    omega
  have s2 : c.f2.size ≤ 65535 := by
    have : c.f2.size = c.f2.data.toList.length := by rw [Array.length_toList]; rfl
    omega
  unfold chB at ha
  unfold chF chB
  by_cases h1 : c.f1 = true
  · rw [if_pos h1] at ha ⊢
    rw [List.length_cons, List.length_append] at ha
    refine Ev.ifp (by omega) (Ev.ifp h1 ?_)
    refine Ev.bind (mtF_f _ c.f0 s0 (by rw [e0, List.length_append, List.length_singleton]; omega)) ?_
    refine Ev.val (mtF_f _ c.f2 s2 (by rw [e0]; simp only [List.length_append, List.length_singleton]; omega)) ?_
    rw [e0]
    simp only [List.append_assoc, List.cons_append, List.nil_append]
  · rw [if_neg h1] at ha ⊢
    rw [List.length_cons] at ha
    refine Ev.ifp (by omega) (Ev.ifn h1 ?_)
    refine Ev.val (mtF_f _ c.f0 s0 (by rw [e0, List.length_append, List.length_singleton]; omega)) ?_
    rw [e0]
    simp only [List.append_assoc, List.cons_append, List.nil_append]
theorem chL_f : ∀ (l : List Ch) (acc : Bs), (∀ c ∈ l, okc c = true) → acc.length + (l.flatMap chB).length ≤ 140737488355328 → Ev (fun k => chL k l acc) (acc ++ l.flatMap chB)
  | [], acc, _, _ => Ev.congr (fun k => by rw [chL]) (Ev.const (by rw [List.flatMap_nil, List.append_nil]))
  | c :: r, acc, h, ha => by
    rw [List.flatMap_cons, List.length_append] at ha
    refine Ev.congr (fun k => by rw [chL]) ?_
    refine Ev.bind (chF_f acc c (h c (List.mem_cons_self ..)) (by omega)) ?_
    refine Ev.val (chL_f r _ (fun y hy => h y (List.mem_cons_of_mem _ hy)) (by rw [List.length_append]; omega)) ?_
    rw [List.flatMap_cons, List.append_assoc]
noncomputable def sendR (a b : List It) : ByteArray × Int := match sendB mkY rtB a b with | some s => (ba s, 0) | none => (⟨#[]⟩, 9)
theorem sendF_f {a b : List It} (ha : Fit a) (hb : Fit b) (hl : a.length + b.length ≤ 1073741824) : Ev (fun k => sendF k a b) (sendR a b) := by
  unfold sendF sendR sendB
  refine Ev.bind (mayF_f ha (by omega)) ?_
  by_cases hm : mayB rtB a = true
  · refine Ev.ifp hm ?_
    refine Ev.bind (Check_f hb (by omega)) ?_
    cases hlk : lookS b with
    | none =>
      have hr : ¬ (mayB rtB a = true ∧ rtB b = true) := fun h => by
        have := h.2
        unfold rtB at this
        rw [hlk] at this; cases this
      rw [if_neg hr]
      exact Ev.ifn (show ¬ (9 : Int) = 0 by decide) (Ev.const rfl)
    | some v =>
      have hr : mayB rtB a = true ∧ rtB b = true := ⟨hm, by unfold rtB; rw [hlk]; rfl⟩
      rw [if_pos hr]
      refine Ev.ifp rfl ?_
      have hoa := may_ok (rt := rtB) rtB_ok hm
      have hob := rtB_ok b hr.2
      refine Ev.bind (itDiff a b (by omega)) ?_
      have hd : diffS a b = (diffL a b, 0) := by
        unfold diffS
        rw [hoa, hob]; rfl
      rw [hd]
      refine Ev.bind (markF_f (l := a) (by omega)) ?_
      rw [if_pos hoa]
      have hdl := diffL_len a b
      refine Ev.bind (number_f (diffL a b).length 4 (by decide) (by decide) (by show _ < 4294967296; omega)) ?_
      have hcl := chB_len (diff_ok hoa hob)
      refine Ev.ifp ⟨by show (diffL a b).length ≤ _; omega, by rw [ba_size, be_len]; decide⟩ ?_
      have hml := mkY_len a
      unfold mkY at hml
      refine Ev.bind (chL_f (diffL a b) _ (diff_ok hoa hob) (by rw [ba_data]; simp only [List.length_append, hml, be_len, List.length_cons, List.length_nil]; omega)) ?_
      have eb : [67, 83] ++ (octs (mkB a) ++ (ba (be 4 (diffL a b).length)).data.toList) ++ (diffL a b).flatMap chB = bodyB (mkY a) (diffL a b) := by
        rw [ba_data]
        unfold bodyB mkY
        simp only [List.append_assoc]
      have hbl : (bodyB (mkY a) (diffL a b)).length ≤ 140737488355320 := by
        unfold bodyB mkY
        simp only [List.length_append, hml, be_len, List.length_cons, List.length_nil]; omega
      show Ev (fun k => (pack_Number.f k (sumC (ba ([67, 83] ++ (octs (mkB a) ++ (ba (be 4 (diffL a b).length)).data.toList) ++ (diffL a b).flatMap chB)) (ba ([67, 83] ++ (octs (mkB a) ++ (ba (be 4 (diffL a b).length)).data.toList) ++ (diffL a b).flatMap chB)).size 0 0) 4).bind fun z => if ([67, 83] ++ (octs (mkB a) ++ (ba (be 4 (diffL a b).length)).data.toList) ++ (diffL a b).flatMap chB).length + z.1.size ≤ 140737488355328 then some (ba ([67, 83] ++ (octs (mkB a) ++ (ba (be 4 (diffL a b).length)).data.toList) ++ (diffL a b).flatMap chB ++ z.1.data.toList), (0 : Int)) else none) _
      rw [eb, sum_nat, ba_data]
      refine Ev.bind (number_f (crc (bodyB (mkY a) (diffL a b)) 0) 4 (by decide) (by decide) (crc_lt _ _ (by decide))) (Ev.const ?_)
      rw [ba_data, ba_size, be_len, if_pos (by omega)]
      rfl
  · rw [if_neg (fun h => hm h.1)]
    exact Ev.ifn hm (Ev.const rfl)
end Go.Proofs.YtfkofbabeghgkaaGreat.Z
end

section
namespace Go.Proofs.YtfkofbabeghgkaaGreat.Z
open Go.Proofs.YtfkofbabeghgkaaGreat.PM
theorem mk_wb0 (B b : Nat) (l : List UInt8) (w : World) (h : MkR w B b l) (hlen : l.length + 1 ≤ 140737488355328) :
    Calls Tryz.prog 27 #[.pointer (some ⟨b, 0, none⟩), .int .u8 0] w fun e w' => e = .returned .nilIface ∧ MkR w' B b (l ++ [0]) ∧ Below B w w' ∧ Mkk b w w' := mk_wb B b l 0 w h hlen
theorem mk_wb1 (B b : Nat) (l : List UInt8) (w : World) (h : MkR w B b l) (hlen : l.length + 1 ≤ 140737488355328) :
    Calls Tryz.prog 27 #[.pointer (some ⟨b, 0, none⟩), .int .u8 1] w fun e w' => e = .returned .nilIface ∧ MkR w' B b (l ++ [1]) ∧ Below B w w' ∧ Mkk b w w' := mk_wb B b l 1 w h hlen
theorem mark_rng {k : Nat} {l : List It} {r1 : List Int} {r2 : Int} (h : markF k l = some (r1, r2)) : (∀ x ∈ r1, 0 ≤ x ∧ x < 256) ∧ r1.length = 32 := by
  unfold markF at h
  obtain ⟨c, _, h⟩ := Option.bind_eq_some_iff.mp h
  by_cases h0 : c = 0
  · rw [if_pos h0] at h
    obtain ⟨b, _, h⟩ := Option.bind_eq_some_iff.mp h
    obtain ⟨hh, hs, h⟩ := Option.bind_eq_some_iff.mp h
    have h4 := Option.some.inj h
    simp only [Prod.mk.injEq] at h4
    rw [← h4.1]
    exact ⟨hash_range hs, hash_len32 hs⟩
  · rw [if_neg h0] at h
    have h4 := Option.some.inj h
    simp only [Prod.mk.injEq] at h4
    rw [← h4.1]
    exact ⟨fun x hx => by rw [(List.mem_replicate.1 hx).2]; decide, List.length_replicate⟩
theorem bytes_cells {w : World} {g : Nat} {T : TypeId} {l : List Int} (h : w.heap[g]? = some (.cells (arrV l) T (0, 0))) (hr : ∀ x ∈ l, 0 ≤ x ∧ x < 256) : ∀ j x, (octs l)[j]? = some x → w.cell? ((⟨g, 0, none⟩ : Addr).add j) = some (.int .u8 (x.toNat : Int)) := by
  intro j x hx
  have e := ints_bytes hr
  generalize octs l = q at e hx
  subst e
  rw [add_at, Nat.zero_add, blk_cell h]
  unfold arrV ints
  rw [List.getElem?_toArray, List.getElem?_map, List.getElem?_map, hx]
  rfl
theorem drop_Ch {l : List Ch} {i : Int} (h0 : 0 ≤ i) (h1 : i < l.length) : l.drop i.toNat = rd_T60 l i :: l.drop (i + 1).toNat := by
  have hl : i.toNat < l.length := by omega
  rw [List.drop_eq_getElem_cons hl, show (i + 1).toNat = i.toNat + 1 by omega]
  congr 1
  unfold rd_T60
  rw [List.getD_eq_getElem?_getD, List.getElem?_eq_getElem hl]
  rfl
theorem heap_IT : Kd.Heap k77 := Kd.heap_iso _ (Kd.heap_pair Kd.heap_string Kd.heap_string)
theorem octs_len (l : List Int) : (octs l).length = l.length := by
  unfold octs
  rw [List.length_map]
set_option maxRecDepth 100000 in
set_option maxHeartbeats 6400000 in
theorem stream_Send.calls (k : Nat) (A0 : Option Addr) (c0 : Nat) (l0 : List VIT) (A1 : Option Addr) (c1 : Nat) (l1 : List VIT) (r1 : ByteArray) (r2 : Int) (w : World) (hr0 : Kd.C k77 w A0 l0.length l0) (hc0 : l0.length ≤ c0) (hr1 : Kd.C k77 w A1 l1.length l1) (hc1 : l1.length ≤ c1) (h : sendF k l0 l1 = some (r1, r2)) :
    Calls Tryz.prog 10 #[.slice A0 l0.length c0, .slice A1 l1.length c1] w fun e w' => e = .returned (.tuple #[.string r1, .int .i64 r2]) ∧ Below w.heap.size w w' := by
  unfold sendF at h
  obtain ⟨m, hm, h⟩ := Option.bind_eq_some_iff.mp h
  have HC0 := ak_ hr0
  have HP0 := ak_ hc0
  have HC1 := ak_ hr1
  have HP1 := ak_ hc1
  have HK := ak_ hm
  clear hr0 hc0 hr1 hc1 hm
  cases m with
  | false =>
    rw [if_neg (by decide)] at h
    have h4 := Option.some.inj h
    simp only [Prod.mk.injEq] at h4
    obtain ⟨rfl, rfl⟩ := h4
    clear h
    go_enter Tryz.func10, Tryz.ntmps10
    go_wp2_with (go_at_call 22; refine (may_calls k A0 c0 l0 false _ HC0.out HP0.out HK.out).mono ?_; rintro e w1 ⟨rfl, hb⟩; have B1 := ak_ hb; clear hb)
    go_ret2
    exact ⟨rfl, B1.out⟩
  | true =>
    rw [if_pos rfl] at h
    obtain ⟨c, hc, h⟩ := Option.bind_eq_some_iff.mp h
    have HQ := ak_ hc
    clear hc
    by_cases h0 : c = 0
    rotate_left
    · rw [if_neg h0] at h
      have h4 := Option.some.inj h
      simp only [Prod.mk.injEq] at h4
      obtain ⟨rfl, rfl⟩ := h4
      have e1 : (c != 0) = true := bne_iff_ne.2 h0
      clear h h0
      go_enter Tryz.func10, Tryz.ntmps10
      go_wp2_with (first
        | (go_at_call 22; refine (may_calls k A0 c0 l0 true _ HC0.out HP0.out HK.out).mono ?_; rintro e w1 ⟨rfl, hb⟩; have B1 := ak_ hb; clear hb)
        | (go_at_call 20; refine (dirs_Check.calls k A1 c1 l1 c _ (Kd.C_below HC1.out B1.out) HP1.out HQ.out).mono ?_; rintro e w2 ⟨rfl, hb⟩; have B2 := ak_ (below_step B1.out hb); clear hb))
      go_ret2
      exact ⟨rfl, B2.out⟩
    · rw [if_pos h0] at h
      subst h0
      obtain ⟨⟨d1, d2⟩, hd, h⟩ := Option.bind_eq_some_iff.mp h
      obtain ⟨⟨q1, q2⟩, hq, h⟩ := Option.bind_eq_some_iff.mp h
      obtain ⟨⟨n1, n2⟩, hn, h⟩ := Option.bind_eq_some_iff.mp h
      split at h
      case isFalse => cases h
      case isTrue hg =>
      obtain ⟨body, hb, h⟩ := Option.bind_eq_some_iff.mp h
      obtain ⟨⟨z1, z2⟩, hz, h⟩ := Option.bind_eq_some_iff.mp h
      split at h
      case isFalse => cases h
      case isTrue hbl =>
      have h4 := Option.some.inj h
      simp only [Prod.mk.injEq] at h4
      obtain ⟨rfl, rfl⟩ := h4
      dsimp only at hg hb hz hbl hn
      have HD := ak_ hd
      have HMK := ak_ hq
      have HRG := ak_ (mark_rng hq)
      have HN := ak_ hn
      have HG := ak_ hg
      have HB := ak_ hb
      have HZ := ak_ hz
      have HBL := ak_ hbl
      have ew1 : IntKind.u64.wrap (d1.length : Int) = (d1.length : Int) := IntWalk.u64_in _ ⟨by omega, by omega⟩
      have hsum : 0 ≤ sumC (ba body) (ba body).size 0 0 ∧ sumC (ba body) (ba body).size 0 0 < 4294967296 := by
        rw [sum_nat]
        have := crc_lt (ba body).data.toList 0 (by decide)
        omega
      obtain ⟨sm, hsm⟩ : ∃ sm, sm = sumC (ba body) (ba body).size 0 0 := ⟨_, rfl⟩
      rw [← hsm] at hsum
      have ew2 : IntKind.u64.wrap sm = sm := IntWalk.u64_in _ ⟨by omega, by omega⟩
      have HSM := ak_ hsm
      rw [← hsm] at HZ
      clear h hd hq hn hg hb hz hbl hsum hsm
      go_enter Tryz.func10, Tryz.ntmps10
      go_wp2_with (first
        | (go_at_call 22; refine (may_calls k A0 c0 l0 true _ HC0.out HP0.out HK.out).mono ?_; rintro e w1 ⟨rfl, hb⟩; have B1 := ak_ hb; clear hb)
        | (go_at_call 20; refine (dirs_Check.calls k A1 c1 l1 0 _ (Kd.C_below HC1.out B1.out) HP1.out HQ.out).mono ?_; rintro e w2 ⟨rfl, hb⟩; have B2 := ak_ (below_step B1.out hb); clear hb)
        | (go_at_call 23; refine (item_Diff.calls k (fun k_ => k_ < w2.heap.size) A0 c0 l0 (fun k_ => k_ < w2.heap.size) A1 c1 l1 d1 d2 _ (Kd.V_mk HP0.out (Kd.C_F heap_IT (Kd.C_below HC0.out B2.out))) (Kd.V_mk HP1.out (Kd.C_F heap_IT (Kd.C_below HC1.out B2.out))) HD.out).mono ?_; rintro e w3 ⟨v3, rfl, hR, hb⟩; obtain ⟨Ad, cd, rfl⟩ := Kd.R_slice hR; have RD := ak_ (Kd.R_reads' hR); have B3 := ak_ (below_step B2.out hb); clear hb hR)
        | (go_at_call 16; refine (stream_Mark.calls k A0 c0 l0 q1 q2 _ (Kd.C_below HC0.out B3.out) HP0.out HMK.out).mono ?_; rintro e w4 ⟨rfl, hb⟩; have R4 := ak_ (Kd.C_below RD.out.2.2 hb); have B4 := ak_ (below_step B3.out hb); obtain ⟨V, hV⟩ : ∃ V : Array Value, V = arrV q1 := ⟨_, rfl⟩; rw [← hV]; have HV := ak_ hV; have HVS := ak_ (show V.size = 32 by rw [hV, arrV_size, HRG.out.2]); have HVO := ak_ (show V.toList.all Value.oneCell' = true by rw [hV]; simpa using arrV_one q1); clear hb hV)
        | ((with_reducible refine gate_dst (N := 8) rfl ?_); refine var_event (N := 8) (T := 28) (n := 32) (zc := arrV (List.replicate 32 0)) (cs := V) rfl rfl rfl (.tmp 30) rfl rfl ?hr info32 (by simp [arrV_size]) HVS.out HVO.out ?hx ?hN ?_; (case hx => intro p_; rfl); (case hN => intro p_; rfl); (case hr => first | (go_simp; done) | (go_simp; rfl)); intro gv hgv w5 hx5 hb5; have X5 := ak_ hx5; have B5 := ak_ (below_step B4.out hb5); have R5 := ak_ (Kd.C_below R4.out hb5); clear hx5 hb5 hgv)
        | ((with_reducible refine gate_dst (N := 33) rfl ?_); refine box_event ?hg (N := 33) ?hd (cs := #[.pointer none, .slice none 0 0]) (t := 51) ?hr ?_; (case hd => rfl); (case hg => rfl); (case hr => first | (go_simp; done) | (go_simp; rfl)); intro gm hgm wm hx hb; have MM := ak_ (MkR.new (B := gm) (Nat.le_refl _) hx); have XM := ak_ (blk_below X5.out hb); have BM := ak_ (below_step B5.out hb); have G5 := ak_ hgm; have H5 := ak_ hb; have GM := ak_ (show gv ≠ gm ∧ w.heap.size ≤ gm from ⟨by rw [hgm]; exact Nat.ne_of_lt (blk_lt X5.out), by have := B5.out.size; omega⟩); clear hx hb hgm)
        | (go_at_call 24; refine (mk_ws gm gm [] ⟨#[67, 83]⟩ _ MM.out (by decide)).mono ?_; rintro e w6 ⟨rfl, hm, hb, hk⟩; have M6 := ak_ (show MkR w6.drew gm gm [67, 83] from MkR.below (w := w6) hm (below_drew1 (Below.refl _ _))); have B6 := ak_ hb; have X6 := ak_ (show w6.drew.heap[gv]? = _ from mkk_blk hk XM.out GM.out.1 (by decide)); clear hm hb hk))
      go_region_with ((go_at_call 25; refine (mk_w gm gm [67, 83] ⟨gv, 0, none⟩ (octs q1) 32 32 _ M6.out (by rw [octs_len, HRG.out.2]) (by decide) (bytes_cells (by rw [← HV.out]; exact X6.out) HRG.out.1) ⟨GM.out.1, rfl⟩ (by decide)).mono ?_; rintro e w7 ⟨rfl, hm, hb, hk⟩; have M7 := ak_ hm; have B7 := ak_ (show Below gm wm w7 from (Below.drew B6.out).trans hb); clear hm hb hk))
      go_wp2_with (go_at_call 26; refine (mk_num k gm gm _ (d1.length : Int) 4 n1 n2 _ M7.out HN.out (by have := HG.out.2; have := HRG.out.2; have := octs_len q1; simp only [List.length_append, List.length_cons, List.length_nil]; omega)).mono ?_; rintro e w8 ⟨rfl, hm, hb, hk⟩; have M8 := ak_ hm; have B8 := ak_ (B7.out.trans hb); clear hm hb hk)
      go_loopw [50] (fun vi wr => ∃ (i : Int) (acc : List UInt8), vi = .int .i64 i ∧ Aside0 (0 ≤ i ∧ i ≤ d1.length) ∧ Aside0 (MkR wr gm gm acc) ∧ Aside0 (Below gm wm wr) ∧ Aside0 (chL k (d1.drop i.toNat) acc = some body)) (fun vi _ => d1.length - (intOf vi).toNat)
      case atStart => exact ⟨0, _, rfl, ⟨by omega⟩, M8, B8, ⟨by have := HB.out; rw [← List.append_assoc] at this; exact this⟩⟩
      case round =>
        obtain ⟨i, acc, rfl, HI, HM, HR, HL⟩ := hrel
        obtain ⟨hi0, hi1⟩ := HI.out
        by_cases hlt : i < (d1.length : Int)
        · have hlt2 : decide (i < (d1.length : Int)) = true := decide_eq_true hlt
          have p0 := eq_true hi0
          have p1 := eq_true hlt
          obtain ⟨x, hx⟩ : ∃ x, x = rd_T60 d1 i := ⟨_, rfl⟩
          obtain ⟨ad, hAd, k0, k1, k2⟩ := at_T60 (Kd.C_below R5.out (H5.out.trans (by rw [← G5.out]; exact HR.out))) i hi0 hlt
          subst hAd
          rw [← hx] at k0 k1 k2
          have hR0 := HL.out
          rw [drop_Ch hi0 hlt, ← hx, chL] at hR0
          obtain ⟨a2, ha2, hR0⟩ := Option.bind_eq_some_iff.mp hR0
          unfold chF at ha2
          split at ha2
          case isFalse => cases ha2
          case isTrue hal =>
          have HA0 := ak_ hal
          have HL2 := ak_ hR0
          have ew : wrap64 (i + 1) = i + 1 := by have := HG.out; unfold wrap64; omega
          have EW := ak_ ew
          have LT := ak_ hlt
          cases hf : x.f1 with
          | true =>
            rw [hf] at k1 ha2
            rw [if_pos rfl] at ha2
            obtain ⟨a1, ha1, ha2⟩ := Option.bind_eq_some_iff.mp ha2
            have HA1 := ak_ ha1
            have HA2 := ak_ ha2
            clear hlt hi0 hi1 ew hx hR0 ha1 ha2 hal hf
            go_wp2_with (first
              | ((with_reducible refine gate_dst (N := 12) rfl ?_); refine var_event (N := 12) (T := 60) (n := 3) (zc := #[.string ⟨#[]⟩, .bool false, .string ⟨#[]⟩]) (cs := #[.string x.f0, .bool true, .string x.f2]) rfl rfl rfl (.tmp 53) rfl rfl ?hr (by kernel_rfl) rfl rfl rfl ?hx ?hN ?_; (case hx => intro p_; rfl); (case hN => intro p_; rfl); (case hr => first | (go_simp; done) | (go_simp; rfl)); intro gx hgx w7 hx7 hb7; have X7 := ak_ hx7; have B7 := ak_ hb7; have M7 := ak_ (HM.out.below hb7); have GX := ak_ (show gx ≠ gm by have := HM.out.lt.2; omega); have y1 : w7.cell? ⟨gx, 1, none⟩ = some (.bool true) := (blk_cell hx7 1).trans rfl; clear hx7 hb7 hgx k0 k1 k2)
              | (go_at_call 27; with_reducible refine (mk_wb1 gm gm acc _ M7.out HA0.out).mono ?_; rintro e w8 ⟨rfl, hm, hb, hk⟩; have M8 := ak_ hm; have B8 := ak_ hb; have X8 := ak_ (mkk_blk hk X7.out GX.out (by decide)); have y0 : w8.cell? ⟨gx, 0, none⟩ = some (.string x.f0) := (blk_cell X8.out 0).trans rfl; clear hm hb hk y1)
              | (go_at_call 28; with_reducible refine (mk_text k gm gm (acc ++ [1]) x.f0 a1 _ M8.out HA1.out).mono ?_; rintro e w9 ⟨rfl, hm, hb, hk⟩; have M9 := ak_ hm; have B9 := ak_ hb; have X9 := ak_ (mkk_blk hk X8.out GX.out (by decide)); have y2 : w9.cell? ⟨gx, 2, none⟩ = some (.string x.f2) := (blk_cell X9.out 2).trans rfl; clear hm hb hk y0)
              | (go_at_call 28; with_reducible refine (mk_text k gm gm a1 x.f2 a2 _ M9.out HA2.out).mono ?_; rintro e w10 ⟨rfl, hm, hb, hk⟩; have M10 := ak_ hm; have B10 := ak_ hb; clear hm hb hk y2))
            have hi := HI.out
            have hl := LT.out
            go_roundw
            case rel => exact ⟨i + 1, a2, by rw [EW.out], ⟨by omega⟩, M10, ⟨HR.out.trans ((((mk_bel B7.out (Nat.le_of_lt HM.out.lt.2)).trans B8.out).trans B9.out).trans B10.out)⟩, HL2⟩
            case measure =>
              simp [EW.out, intOf]
              omega
          | false =>
            rw [hf] at k1 ha2
            rw [if_neg (by decide)] at ha2
            have HA1 := ak_ ha2
            clear hlt hi0 hi1 ew hx hR0 ha2 hal hf
            go_wp2_with (first
              | ((with_reducible refine gate_dst (N := 12) rfl ?_); refine var_event (N := 12) (T := 60) (n := 3) (zc := #[.string ⟨#[]⟩, .bool false, .string ⟨#[]⟩]) (cs := #[.string x.f0, .bool false, .string x.f2]) rfl rfl rfl (.tmp 53) rfl rfl ?hr (by kernel_rfl) rfl rfl rfl ?hx ?hN ?_; (case hx => intro p_; rfl); (case hN => intro p_; rfl); (case hr => first | (go_simp; done) | (go_simp; rfl)); intro gx hgx w7 hx7 hb7; have X7 := ak_ hx7; have B7 := ak_ hb7; have M7 := ak_ (HM.out.below hb7); have GX := ak_ (show gx ≠ gm by have := HM.out.lt.2; omega); have y1 : w7.cell? ⟨gx, 1, none⟩ = some (.bool false) := (blk_cell hx7 1).trans rfl; clear hx7 hb7 hgx k0 k1 k2)
              | (go_at_call 27; with_reducible refine (mk_wb0 gm gm acc _ M7.out HA0.out).mono ?_; rintro e w8 ⟨rfl, hm, hb, hk⟩; have M8 := ak_ hm; have B8 := ak_ hb; have X8 := ak_ (mkk_blk hk X7.out GX.out (by decide)); have y0 : w8.cell? ⟨gx, 0, none⟩ = some (.string x.f0) := (blk_cell X8.out 0).trans rfl; clear hm hb hk y1)
              | (go_at_call 28; with_reducible refine (mk_text k gm gm (acc ++ [0]) x.f0 a2 _ M8.out HA1.out).mono ?_; rintro e w9 ⟨rfl, hm, hb, hk⟩; have M9 := ak_ hm; have B9 := ak_ hb; clear hm hb hk y0))
            have hi := HI.out
            have hl := LT.out
            go_roundw
            case rel => exact ⟨i + 1, a2, by rw [EW.out], ⟨by omega⟩, M9, ⟨HR.out.trans (((mk_bel B7.out (Nat.le_of_lt HM.out.lt.2)).trans B8.out).trans B9.out)⟩, HL2⟩
            case measure =>
              simp [EW.out, intOf]
              omega
        · have hge : decide (i < (d1.length : Int)) = false := decide_eq_false hlt
          have hR := HL.out
          rw [List.drop_eq_nil_of_le (by omega), chL] at hR
          obtain rfl := Option.some.inj hR
          clear hlt hi0 hi1 hR HL
          go_wp2_with (first
            | (go_at_call 30; with_reducible refine (mk_string gm gm acc _ HM.out).mono ?_; rintro e w9 ⟨rfl, hm, hb, hk⟩; have M9 := ak_ hm; have B9 := ak_ (HR.out.trans hb); clear hm hb hk)
            | (go_at_call 29; refine (sum_calls (ba acc) (by rw [ba_size]; have := HBL.out; omega) _).mono ?_; rintro e w10 ⟨rfl, hb⟩; rw [← HSM.out]; have M10 := ak_ (M9.out.below hb); have B10 := ak_ (B9.out.trans (mk_bel hb (Nat.le_of_lt M9.out.lt.2))); clear hb)
            | (go_at_call 26; refine (mk_num k gm gm acc sm 4 z1 z2 _ M10.out HZ.out HBL.out).mono ?_; rintro e w11 ⟨rfl, hm, hb, hk⟩; have M11 := ak_ hm; have B11 := ak_ (B10.out.trans hb); clear hm hb hk)
            | (go_at_call 30; with_reducible refine (mk_string gm gm (acc ++ z1.data.toList) _ M11.out).mono ?_; rintro e w12 ⟨rfl, hm, hb, hk⟩; have B12 := ak_ (B11.out.trans hb); clear hm hb hk))
          go_ret2
          exact ⟨rfl, mk_bel2 BM.out GM.out.2 B12.out⟩
end Go.Proofs.YtfkofbabeghgkaaGreat.Z
end

section
namespace Go.Proofs.YtfkofbabeghgkaaGreat.Z
theorem info_ch : (Tryz.prog.info? 60).map (fun i => (i.zero, i.size, i.bytes)) = some (some (.agg #[.string ⟨#[]⟩, .bool false, .string ⟨#[]⟩]), 3, 40) := by kernel_rfl
theorem tkT_list {k : Nat} {s s' : TkS} {r : ByteArray} (h : tkT k s = some (r, s')) : s'.list = s.list := by
  unfold tkT at h
  obtain ⟨q, _, h⟩ := Option.bind_eq_some_iff.mp h
  have h4 := Option.some.inj h
  simp only [Prod.mk.injEq] at h4
  rw [← h4.2]
theorem notUp_nil {cs : List Ch} (h : cs.length = 0) (k : List UInt8) : notUp cs k = false := by
  cases cs with
  | nil => rfl
  | cons x r => simp at h
theorem notUp_last {cs : List Ch} {j : Int} (h0 : 0 ≤ j) (hj : j = (cs.length : Int) - 1) (k : List UInt8) : notUp cs k = !Op.bytesLess (rd_T60 cs j).f0.toList k := by
  unfold notUp
  have hl : j.toNat < cs.length := by omega
  rw [List.getLast?_eq_getElem?, show cs.length - 1 = j.toNat by omega, List.getElem?_eq_getElem hl]
  unfold rd_T60
  rw [List.getD_eq_getElem?_getD, List.getElem?_eq_getElem hl]
  rfl
set_option maxRecDepth 100000 in
set_option maxHeartbeats 12800000 in
theorem tk_change (k g B : Nat) (bs : List Int) (s s' : TkS) (v : Value) (w0 w : World) (h : TkR w g B bs s v) (hF : Fr g w0 w) (h0 : w0.heap.size ≤ B) (hB : B ≤ w.heap.size) (hC : tkC k s = some s') :
    Calls Tryz.prog 62 #[.pointer (some ⟨g, 0, none⟩)] w fun e w' => e = .returned (.tuple #[]) ∧ (∃ v', TkR w' g B bs s' v') ∧ Fr g w0 w' := by
  unfold tkC at hC
  obtain ⟨⟨n1, s1⟩, hn, hC⟩ := Option.bind_eq_some_iff.mp hC
  obtain ⟨⟨x1, s2⟩, hx, hC⟩ := Option.bind_eq_some_iff.mp hC
  dsimp only at hx hC
  have HT := ak_ h
  have HW := ak_ hB
  have HF := ak_ hF
  have HW0 := ak_ h0
  have HWW := ak_ hF.size
  have HN := ak_ hn
  have HX := ak_ hx
  have HC := ak_ hC
  clear h hF h0 hB hn hx hC
  by_cases h1 : n1 = 1
  · subst h1
    have hC := HC.out
    rw [if_pos rfl] at hC
    obtain ⟨⟨v1, s3⟩, hv, hC1⟩ := Option.bind_eq_some_iff.mp hC
    clear hC HC
    dsimp only at hC1
    unfold tkA at hC1
    split at hC1
    case isFalse => cases hC1
    case isTrue hgrd =>
    obtain ⟨l, bd, cs⟩ := s3
    obtain ⟨l2, bd2, cs2⟩ := s2
    obtain rfl : cs = cs2 := tkT_list hv
    have HV := ak_ hv
    have HS := ak_ (Option.some.inj hC1)
    dsimp only at hgrd HS
    clear hC1 hv
    go_enter Tryz.func62, Tryz.ntmps62
    go_wp2_with (first
      | (go_at_call 61; refine (tk_num k g B bs s s1 1 1 v _ HT.out HN.out).mono ?_; rintro e w1 ⟨rfl, ht, hf⟩; have T1 := ak_ ht; have F1 := ak_ (HF.out.trans hf); have S1 := ak_ hf.size; clear ht hf)
      | (go_at_call 93; (with_reducible refine (tk_text k g B bs s1 ⟨l2, bd2, cs⟩ x1 v _ T1.out HX.out).mono ?_); rintro e w2 ⟨rfl, ht, hf⟩; have T2 := ak_ ht; have F2 := ak_ (F1.out.trans hf); have S2 := ak_ (Nat.le_trans S1.out hf.size); clear ht hf)
      | ((with_reducible refine gate_dst (N := 3) rfl ?_); refine var_event (N := 3) (T := 60) (n := 3) (zc := #[.string ⟨#[]⟩, .bool false, .string ⟨#[]⟩]) (cs := #[.string x1, .bool false, .string ⟨#[]⟩]) rfl rfl rfl (.tmp 9) rfl rfl ?hr (by kernel_rfl) rfl rfl rfl ?hx ?hN ?_; (case hx => intro p_; rfl); (case hN => intro p_; rfl); (case hr => first | (go_simp; done) | (go_simp; rfl)); intro gx hgx w3 hx3 hb3; have X3 := ak_ hx3; have T3 := ak_ (T2.out.below hb3); have F3 := ak_ (F2.out.below hb3); have GX := ak_ (show gx ≠ g by have := blk_lt T2.out.1; omega); have GV := ak_ (T2.out.old (Nat.le_of_eq hgx.symm)); have GN := ak_ (show w0.heap.size ≤ gx by have := F2.out.size; omega); have S3 := ak_ (Nat.le_trans S2.out hb3.size); clear hx3 hb3 hgx; obtain ⟨A0, c0, hv0⟩ := Kd.R_slice T3.out.2.1; dsimp only at hv0; subst hv0)
      | (go_at_call 93; (with_reducible refine (tk_text k g B bs ⟨l2, bd2, cs⟩ ⟨l, bd, cs⟩ v1 (.slice A0 cs.length c0) _ T3.out HV.out).mono ?_); rintro e w4 ⟨rfl, ht, hf⟩; have T4 := ak_ ht; have F4 := ak_ (F3.out.trans hf); have X4 := ak_ (hf.blk X3.out GX.out); have y1 : w4.cell? ⟨gx, 1, none⟩ = some (.bool false) := (blk_cell X4.out 1).trans rfl; have g1 : w4.frozen? ⟨gx, 1, none⟩ = false := blk_frozen X4.out 1; have z1 := blk_set X4.out 1 (.bool true); have y2 : (w4.setCell ⟨gx, 1, none⟩ (.bool true)).cell? ⟨gx, 2, none⟩ = some (.string ⟨#[]⟩) := (blk_cell z1 2).trans rfl; have g2 : (w4.setCell ⟨gx, 1, none⟩ (.bool true)).frozen? ⟨gx, 2, none⟩ = false := blk_frozen z1 2; have T5 := ak_ ((T4.out.far GX.out GV.out 1 (.bool true)).far GX.out GV.out 2 (.string v1)); have F5 := ak_ ((F4.out.setNew GN.out 1 (.bool true)).setNew GN.out 2 (.string v1)); have S5 := ak_ (show w.heap.size ≤ ((w4.setCell ⟨gx, 1, none⟩ (.bool true)).setCell ⟨gx, 2, none⟩ (.string v1)).heap.size from by have := Nat.le_trans S3.out hf.size; simpa [World.setCell] using this); have X5 := ak_ (blk_set z1 2 (.string v1)); obtain ⟨hG, hR, hl, hgB⟩ := T5.out; have G5 := ak_ hG; have R5 := ak_ hR; have HL := ak_ (And.intro hl hgB); have z34 : ((w4.setCell ⟨gx, 1, none⟩ (.bool true)).setCell ⟨gx, 2, none⟩ (.string v1)).cell? ⟨g, 34, none⟩ = some (.slice A0 cs.length c0) := (blk_cell hG 34).trans (tkCs34 hl); clear ht hf z1 hG hR hl hgB))
    clear y1 g1 y2 g2 z34
    generalize ((w4.setCell ⟨gx, 1, none⟩ (.bool true)).setCell ⟨gx, 2, none⟩ (.string v1)) = w5 at G5 R5 X5 T5 F5 S5 ⊢
    have HGR := ak_ hgrd
    clear hgrd
    have D5 := ak_ (show Below w5.heap.size w5 w5.drew from below_drew1 (Below.refl _ _))
    have f1 : w5.drew.frozen? ⟨g, 1, none⟩ = false := blk_frozen (blk_below G5.out D5.out) 1
    cases bd with
    | true =>
      have HNB := ak_ (show (true || notUp cs x1.toList) = true from rfl)
      refine start_ (n := 26) (S := (fun w' => w'.cell? ⟨g, 1, none⟩ = some (.bool true))) (ds := [25]) #[false, false, false, false, false, false, false, false, false, false, false, false, false, false, false, false, false, false, false, false, false, false, false, false, false, false] (by kernel_rfl) rfl rfl ((blk_cell (blk_below G5.out D5.out) 1).trans rfl) (fun hHeld => ?_)
      refine pu_ 0 24 ?_
      refine pu_ 1 25 ?_
      refine pu_ 2 26 ?_
      refine pu_ 3 27 ?_
      refine take_ (i := 4) (N := some 28) (v := ?_) (a' := ?_) #[true, true, true, true, true, false, false, false, false, false, false, false, false, false, false, false, false, false, false, false, false, false, false, false, false, false] rfl rfl (by kernel_rfl) (fun _ _ _ h => h) (Or.inl ⟨by rfl, ?_⟩) hHeld ?_ ?_
      rotate_left
      · rintro w' s0
        go_simp
        with_reducible rfl
      rotate_left
      · simp only [Act.put, List.setIfInBounds_toArray, List.set_cons_zero, List.set_cons_succ, i64_w, i32_w]
        rfl
      refine pu_ 5 29 ?_
      refine un_ 6 30 ?_
      refine un_ 7 31 ?_
      refine un_ 8 32 ?_
      refine un_ 9 33 ?_
      refine un_ 10 34 ?_
      refine un_ 11 35 ?_
      refine un_ 12 36 ?_
      refine un_ 13 37 ?_
      refine un_ 14 38 ?_
      refine un_ 15 39 ?_
      refine un_ 16 40 ?_
      refine un_ 17 41 ?_
      refine un_ 18 42 ?_
      refine un_ 19 43 ?_
      refine un_ 20 44 ?_
      refine un_ 21 45 ?_
      refine pu_ 22 46 ?_
      refine pu_ 23 47 ?_
      refine pu_ 24 48 ?_
      refine last_ (i := 25) (N := none) #[true, true, true, true, true, true, true, true, true, true, true, true, true, true, true, true, true, true, true, true, true, true, true, true, true, true] rfl rfl (by kernel_rfl) (by decide) (fun K hK => ?_)
      refine skip_ (w1 := ?_) (by rfl) rfl ?_ ?_
      rotate_left
      · go_simp
        rfl
      refine hK.out _ _ ?_
      clear hK K
      refine done_ (by kernel_rfl) ?_
      have D55 := ak_ (show Below (w5.setCell ⟨g, 1, none⟩ (.bool (true))).heap.size (w5.setCell ⟨g, 1, none⟩ (.bool (true))) (w5.setCell ⟨g, 1, none⟩ (.bool (true))).drew from below_drew1 (Below.refl _ _))
      have T6 := ak_ ((T5.out.set1 (true)).below D55.out)
      have F6 := ak_ ((F5.out.setg 1 (.bool (true))).below D55.out)
      have S6 := ak_ (show w.heap.size ≤ (w5.setCell ⟨g, 1, none⟩ (.bool (true))).drew.heap.size from by have := S5.out; simpa [World.setCell] using this)
      have X6 := ak_ (show (w5.setCell ⟨g, 1, none⟩ (.bool (true))).drew.heap[gx]? = _ from (Below.heap_setCell w5 ⟨g, 1, none⟩ (.bool (true)) gx GX.out).trans X5.out)
      clear hHeld f1 D55
      generalize (w5.setCell ⟨g, 1, none⟩ (.bool (true))).drew = w6 at T6 F6 X6 S6 ⊢
      go_wp2
      obtain ⟨hG6, hR6, hl6, hg6⟩ := T6.out
      have G6 := ak_ hG6
      have R6 := ak_ hR6
      have D6 := ak_ (show Below w6.heap.size w6 w6.drew from below_drew1 (Below.refl _ _))
      clear hG6 hR6 hl6 hg6
      refine start_ (n := 11) (S := (fun w' => w'.cell? ⟨g, 34, none⟩ = some (.slice A0 cs.length c0) ∧ w'.cell? ⟨gx, 0, none⟩ = some (.string x1) ∧ w'.cell? ⟨gx, 1, none⟩ = some (.bool true) ∧ w'.cell? ⟨gx, 2, none⟩ = some (.string v1))) (ds := [10]) #[false, false, false, false, false, false, false, false, false, false, false] (by kernel_rfl) rfl rfl ⟨(blk_cell (blk_below G6.out D6.out) 34).trans (tkCs34 HL.out.1), (blk_cell (blk_below X6.out D6.out) 0).trans rfl, (blk_cell (blk_below X6.out D6.out) 1).trans rfl, (blk_cell (blk_below X6.out D6.out) 2).trans rfl⟩ (fun hHeld => ?_)
      refine pu_ 0 49 ?_
      refine pu_ 1 50 ?_
      refine pu_ 2 51 ?_
      refine pu_ 3 52 ?_
      refine tk4_ 4 53 ?_
      refine tk4_ 5 54 ?_
      refine on_ 6 55 (fun K hK => ?_)
      refine Kd.R_lit_step k60 (w0 := w6.drew) w6.drew.heap.size 60 (by rfl) (N := 55) rfl (xs := [(⟨x1, true, v1⟩ : Ch)]) (inner := [.string x1, .bool true, .string v1]) (ok := fun _ => True) (okp := fun _ => True) (by first | (go_simp; done) | (go_simp; rfl)) (Reps.c3 (k60_mkM _ _ _ (⟨x1, true, v1⟩ : Ch)) (Reps.none _ _)) (fun _ hk => hk) trivial (Below.refl _ _) (Nat.le_refl _) (by simp) ?_
      intro v8 w8 ho hb hg_ hnew_
      have R8 := ak_ ho
      have B8 := ak_ (show Below w6.heap.size w6 w8 from below_then D6.out D6.out.size hb)
      obtain ⟨A8, c8, rfl⟩ := Kd.R_slice ho
      clear ho hb hg_ hnew_
      refine hK.out _ _ ⟨(blk_cell (blk_below G6.out B8.out) 34).trans (tkCs34 HL.out.1), (blk_cell (blk_below X6.out B8.out) 0).trans rfl, (blk_cell (blk_below X6.out B8.out) 1).trans rfl, (blk_cell (blk_below X6.out B8.out) 2).trans rfl⟩ (fun hHeld => ?_)
      clear hK K
      refine nm_ 55 ?_
      refine on_ 7 56 (fun K hK => ?_)
      refine append_wide_step (d := k60) (fun h => h) B (by rfl) (.tmp 53) (.tmp 55) 43 60 (.agg #[.string ⟨#[]⟩, .bool false, .string ⟨#[]⟩]) 40 rfl Tryz.underlying43 info_ch rfl (by decide) (.slice A0 cs.length c0) cs [(⟨x1, true, v1⟩ : Ch)] _ _ _ rfl rfl (Kd.R_below R6.out B8.out) (Kd.R_reads' R8.out).2.2 (Nat.le_trans HW.out (Nat.le_trans S6.out B8.out.size)) (by have := HGR.out; simp; omega) (by have := HGR.out; unfold maxLen; simp; omega) ?_
      intro v9 w9 ho hg
      have R9 := ak_ ho
      have GR := ak_ hg
      have G9 := ak_ (blk_grown (blk_below G6.out B8.out) hg (rowK_low (Kd.R_below R6.out B8.out) HL.out.2))
      have X9 := ak_ (blk_grown (blk_below X6.out B8.out) hg GV.out)
      clear ho hg
      refine hK.out _ _ ⟨(blk_cell G9.out 34).trans (tkCs34 HL.out.1), (blk_cell X9.out 0).trans rfl, (blk_cell X9.out 1).trans rfl, (blk_cell X9.out 2).trans rfl⟩ (fun hHeld => ?_)
      clear hK K
      refine nm_ 56 ?_
      obtain ⟨A9, c9, hv9⟩ := Kd.R_slice R9.out
      obtain ⟨n9, hn9⟩ : ∃ n9, n9 = (cs ++ [(⟨x1, true, v1⟩ : Ch)]).length := ⟨_, rfl⟩
      rw [← hn9] at hv9
      subst hv9
      clear hn9
      have f34 : w9.frozen? ⟨g, 34, none⟩ = false := blk_frozen G9.out 34
      refine pu_ 8 57 ?_
      refine pu_ 9 58 ?_
      refine last_ (i := 10) (N := none) #[true, true, true, true, true, true, true, true, true, true, true] rfl rfl (by kernel_rfl) (by decide) (fun K hK => ?_)
      refine skip_ (w1 := ?_) (by rfl) rfl ?_ ?_
      rotate_left
      · go_simp
        rfl
      refine hK.out _ _ ?_
      clear hK K
      refine done_ (by kernel_rfl) ?_
      clear hHeld f34
      go_wp2
      go_end0
      refine ⟨rfl, ?_, ((F6.out.below B8.out).grown GR.out (fun b hb => Nat.le_trans HW0.out (rowK_base R6.out b hb))).setg 34 _⟩
      rw [← HS.out, show notUp cs (ck ((⟨x1, true, v1⟩ : Ch))) = notUp cs x1.toList from rfl, HNB.out]
      exact ⟨_, TkR.push (blk_below G6.out B8.out) (Kd.R_below R6.out B8.out) HL.out.1 HL.out.2 R9.out GR.out⟩
    | false =>
      by_cases hz : cs.length = 0
      · have e1 : decide ((0 : Int) < (cs.length : Int)) = false := decide_eq_false (by omega)
        have e2 : decide (0 < cs.length) = false := decide_eq_false (by omega)
        have HNB := ak_ (show (false || notUp cs x1.toList) = false by rw [Bool.false_or]; exact notUp_nil hz _)
        clear hz
        refine start_ (n := 26) (S := (fun w' => w'.cell? ⟨g, 1, none⟩ = some (.bool false))) (ds := [25]) #[false, false, false, false, false, false, false, false, false, false, false, false, false, false, false, false, false, false, false, false, false, false, false, false, false, false] (by kernel_rfl) rfl rfl ((blk_cell (blk_below G5.out D5.out) 1).trans rfl) (fun hHeld => ?_)
        refine pu_ 0 24 ?_
        refine pu_ 1 25 ?_
        refine pu_ 2 26 ?_
        refine pu_ 3 27 ?_
        refine take_ (i := 4) (N := some 28) (v := ?_) (a' := ?_) #[true, true, true, true, true, false, false, false, false, false, false, false, false, false, false, false, false, false, false, false, false, false, false, false, false, false] rfl rfl (by kernel_rfl) (fun _ _ _ h => h) (Or.inl ⟨by rfl, ?_⟩) hHeld ?_ ?_
        rotate_left
        · rintro w' s0
          go_simp
          with_reducible rfl
        rotate_left
        · simp only [Act.put, List.setIfInBounds_toArray, List.set_cons_zero, List.set_cons_succ, i64_w, i32_w]
          rfl
        refine pu_ 5 29 ?_
        refine pu_ 6 30 ?_
        refine pu_ 7 31 ?_
        refine pu_ 8 32 ?_
        refine un_ 9 33 ?_
        refine un_ 10 34 ?_
        refine un_ 11 35 ?_
        refine un_ 12 36 ?_
        refine un_ 13 37 ?_
        refine un_ 14 38 ?_
        refine un_ 15 39 ?_
        refine un_ 16 40 ?_
        refine un_ 17 41 ?_
        refine un_ 18 42 ?_
        refine un_ 19 43 ?_
        refine un_ 20 44 ?_
        refine pu_ 21 45 ?_
        refine pu_ 22 46 ?_
        refine pu_ 23 47 ?_
        refine pu_ 24 48 ?_
        refine last_ (i := 25) (N := none) #[true, true, true, true, true, true, true, true, true, true, true, true, true, true, true, true, true, true, true, true, true, true, true, true, true, true] rfl rfl (by kernel_rfl) (by decide) (fun K hK => ?_)
        refine skip_ (w1 := ?_) (by rfl) rfl ?_ ?_
        rotate_left
        · go_simp
          rfl
        refine hK.out _ _ ?_
        clear hK K
        refine done_ (by kernel_rfl) ?_
        have D55 := ak_ (show Below (w5.setCell ⟨g, 1, none⟩ (.bool (false))).heap.size (w5.setCell ⟨g, 1, none⟩ (.bool (false))) (w5.setCell ⟨g, 1, none⟩ (.bool (false))).drew from below_drew1 (Below.refl _ _))
        have T6 := ak_ ((T5.out.set1 (false)).below D55.out)
        have F6 := ak_ ((F5.out.setg 1 (.bool (false))).below D55.out)
        have S6 := ak_ (show w.heap.size ≤ (w5.setCell ⟨g, 1, none⟩ (.bool (false))).drew.heap.size from by have := S5.out; simpa [World.setCell] using this)
        have X6 := ak_ (show (w5.setCell ⟨g, 1, none⟩ (.bool (false))).drew.heap[gx]? = _ from (Below.heap_setCell w5 ⟨g, 1, none⟩ (.bool (false)) gx GX.out).trans X5.out)
        clear hHeld f1 D55
        generalize (w5.setCell ⟨g, 1, none⟩ (.bool (false))).drew = w6 at T6 F6 X6 S6 ⊢
        go_wp2
        obtain ⟨hG6, hR6, hl6, hg6⟩ := T6.out
        have G6 := ak_ hG6
        have R6 := ak_ hR6
        have D6 := ak_ (show Below w6.heap.size w6 w6.drew from below_drew1 (Below.refl _ _))
        clear hG6 hR6 hl6 hg6
        refine start_ (n := 11) (S := (fun w' => w'.cell? ⟨g, 34, none⟩ = some (.slice A0 cs.length c0) ∧ w'.cell? ⟨gx, 0, none⟩ = some (.string x1) ∧ w'.cell? ⟨gx, 1, none⟩ = some (.bool true) ∧ w'.cell? ⟨gx, 2, none⟩ = some (.string v1))) (ds := [10]) #[false, false, false, false, false, false, false, false, false, false, false] (by kernel_rfl) rfl rfl ⟨(blk_cell (blk_below G6.out D6.out) 34).trans (tkCs34 HL.out.1), (blk_cell (blk_below X6.out D6.out) 0).trans rfl, (blk_cell (blk_below X6.out D6.out) 1).trans rfl, (blk_cell (blk_below X6.out D6.out) 2).trans rfl⟩ (fun hHeld => ?_)
        refine pu_ 0 49 ?_
        refine pu_ 1 50 ?_
        refine pu_ 2 51 ?_
        refine pu_ 3 52 ?_
        refine tk4_ 4 53 ?_
        refine tk4_ 5 54 ?_
        refine on_ 6 55 (fun K hK => ?_)
        refine Kd.R_lit_step k60 (w0 := w6.drew) w6.drew.heap.size 60 (by rfl) (N := 55) rfl (xs := [(⟨x1, true, v1⟩ : Ch)]) (inner := [.string x1, .bool true, .string v1]) (ok := fun _ => True) (okp := fun _ => True) (by first | (go_simp; done) | (go_simp; rfl)) (Reps.c3 (k60_mkM _ _ _ (⟨x1, true, v1⟩ : Ch)) (Reps.none _ _)) (fun _ hk => hk) trivial (Below.refl _ _) (Nat.le_refl _) (by simp) ?_
        intro v8 w8 ho hb hg_ hnew_
        have R8 := ak_ ho
        have B8 := ak_ (show Below w6.heap.size w6 w8 from below_then D6.out D6.out.size hb)
        obtain ⟨A8, c8, rfl⟩ := Kd.R_slice ho
        clear ho hb hg_ hnew_
        refine hK.out _ _ ⟨(blk_cell (blk_below G6.out B8.out) 34).trans (tkCs34 HL.out.1), (blk_cell (blk_below X6.out B8.out) 0).trans rfl, (blk_cell (blk_below X6.out B8.out) 1).trans rfl, (blk_cell (blk_below X6.out B8.out) 2).trans rfl⟩ (fun hHeld => ?_)
        clear hK K
        refine nm_ 55 ?_
        refine on_ 7 56 (fun K hK => ?_)
        refine append_wide_step (d := k60) (fun h => h) B (by rfl) (.tmp 53) (.tmp 55) 43 60 (.agg #[.string ⟨#[]⟩, .bool false, .string ⟨#[]⟩]) 40 rfl Tryz.underlying43 info_ch rfl (by decide) (.slice A0 cs.length c0) cs [(⟨x1, true, v1⟩ : Ch)] _ _ _ rfl rfl (Kd.R_below R6.out B8.out) (Kd.R_reads' R8.out).2.2 (Nat.le_trans HW.out (Nat.le_trans S6.out B8.out.size)) (by have := HGR.out; simp; omega) (by have := HGR.out; unfold maxLen; simp; omega) ?_
        intro v9 w9 ho hg
        have R9 := ak_ ho
        have GR := ak_ hg
        have G9 := ak_ (blk_grown (blk_below G6.out B8.out) hg (rowK_low (Kd.R_below R6.out B8.out) HL.out.2))
        have X9 := ak_ (blk_grown (blk_below X6.out B8.out) hg GV.out)
        clear ho hg
        refine hK.out _ _ ⟨(blk_cell G9.out 34).trans (tkCs34 HL.out.1), (blk_cell X9.out 0).trans rfl, (blk_cell X9.out 1).trans rfl, (blk_cell X9.out 2).trans rfl⟩ (fun hHeld => ?_)
        clear hK K
        refine nm_ 56 ?_
        obtain ⟨A9, c9, hv9⟩ := Kd.R_slice R9.out
        obtain ⟨n9, hn9⟩ : ∃ n9, n9 = (cs ++ [(⟨x1, true, v1⟩ : Ch)]).length := ⟨_, rfl⟩
        rw [← hn9] at hv9
        subst hv9
        clear hn9
        have f34 : w9.frozen? ⟨g, 34, none⟩ = false := blk_frozen G9.out 34
        refine pu_ 8 57 ?_
        refine pu_ 9 58 ?_
        refine last_ (i := 10) (N := none) #[true, true, true, true, true, true, true, true, true, true, true] rfl rfl (by kernel_rfl) (by decide) (fun K hK => ?_)
        refine skip_ (w1 := ?_) (by rfl) rfl ?_ ?_
        rotate_left
        · go_simp
          rfl
        refine hK.out _ _ ?_
        clear hK K
        refine done_ (by kernel_rfl) ?_
        clear hHeld f34
        go_wp2
        go_end0
        refine ⟨rfl, ?_, ((F6.out.below B8.out).grown GR.out (fun b hb => Nat.le_trans HW0.out (rowK_base R6.out b hb))).setg 34 _⟩
        rw [← HS.out, show notUp cs (ck ((⟨x1, true, v1⟩ : Ch))) = notUp cs x1.toList from rfl, HNB.out]
        exact ⟨_, TkR.push (blk_below G6.out B8.out) (Kd.R_below R6.out B8.out) HL.out.1 HL.out.2 R9.out GR.out⟩
      · have e1 : decide ((0 : Int) < (cs.length : Int)) = true := decide_eq_true (by omega)
        have e2 : decide (0 < cs.length) = true := decide_eq_true (by omega)
        obtain ⟨j, hj⟩ : ∃ j, j = (cs.length : Int) - 1 := ⟨_, rfl⟩
        have hj0 : 0 ≤ j := by omega
        have hj1 : j < (cs.length : Int) := by omega
        have ej : wrap64 ((cs.length : Int) - 1) = j := by have := HGR.out; rw [hj]; unfold wrap64; omega
        have p0 := eq_true hj0
        have p1 := eq_true hj1
        obtain ⟨y, hy⟩ : ∃ y, y = rd_T60 cs j := ⟨_, rfl⟩
        obtain ⟨ad, hAd, k0, _, _⟩ := at_T60 (Kd.R_reads' (Kd.R_below R5.out D5.out)).2.2 j hj0 hj1
        subst hAd
        rw [← hy] at k0
        have HNB := ak_ (show (false || notUp cs x1.toList) = !Op.bytesLess y.f0.toList x1.toList by rw [hy, Bool.false_or]; exact notUp_last hj0 hj _)
        clear hz hj0 hj1 hj hy
        refine start_ (n := 26) (S := (fun w' => w'.cell? ⟨g, 1, none⟩ = some (.bool false) ∧ w'.cell? ⟨g, 34, none⟩ = some (.slice (some ad) cs.length c0) ∧ w'.cell? (ad.add (j.toNat * 3)) = some (.string y.f0) ∧ w'.cell? ⟨gx, 0, none⟩ = some (.string x1))) (ds := [25]) #[false, false, false, false, false, false, false, false, false, false, false, false, false, false, false, false, false, false, false, false, false, false, false, false, false, false] (by kernel_rfl) rfl rfl ⟨(blk_cell (blk_below G5.out D5.out) 1).trans rfl, (blk_cell (blk_below G5.out D5.out) 34).trans (tkCs34 HL.out.1), k0, (blk_cell (blk_below X5.out D5.out) 0).trans rfl⟩ (fun hHeld => ?_)
        refine pu_ 0 24 ?_
        refine pu_ 1 25 ?_
        refine pu_ 2 26 ?_
        refine pu_ 3 27 ?_
        refine tk4_ 4 28 ?_
        refine pu_ 5 29 ?_
        refine pu_ 6 30 ?_
        refine pu_ 7 31 ?_
        refine pu_ 8 32 ?_
        refine pu_ 9 33 ?_
        refine pu_ 10 34 ?_
        refine pu_ 11 35 ?_
        refine tk4_ 12 36 ?_
        refine pu_ 13 37 ?_
        refine pu_ 14 38 ?_
        refine pu_ 15 39 ?_
        refine pu_ 16 40 ?_
        refine tk4_ 17 41 ?_
        refine pu_ 18 42 ?_
        refine tk4_ 19 43 ?_
        refine pu_ 20 44 ?_
        refine pu_ 21 45 ?_
        refine pu_ 22 46 ?_
        refine pu_ 23 47 ?_
        refine pu_ 24 48 ?_
        refine last_ (i := 25) (N := none) #[true, true, true, true, true, true, true, true, true, true, true, true, true, true, true, true, true, true, true, true, true, true, true, true, true, true] rfl rfl (by kernel_rfl) (by decide) (fun K hK => ?_)
        refine skip_ (w1 := ?_) (by rfl) rfl ?_ ?_
        rotate_left
        · go_simp
          rfl
        refine hK.out _ _ ?_
        clear hK K
        refine done_ (by kernel_rfl) ?_
        have D55 := ak_ (show Below (w5.setCell ⟨g, 1, none⟩ (.bool (!Op.bytesLess y.f0.toList x1.toList))).heap.size (w5.setCell ⟨g, 1, none⟩ (.bool (!Op.bytesLess y.f0.toList x1.toList))) (w5.setCell ⟨g, 1, none⟩ (.bool (!Op.bytesLess y.f0.toList x1.toList))).drew from below_drew1 (Below.refl _ _))
        have T6 := ak_ ((T5.out.set1 (!Op.bytesLess y.f0.toList x1.toList)).below D55.out)
        have F6 := ak_ ((F5.out.setg 1 (.bool (!Op.bytesLess y.f0.toList x1.toList))).below D55.out)
        have S6 := ak_ (show w.heap.size ≤ (w5.setCell ⟨g, 1, none⟩ (.bool (!Op.bytesLess y.f0.toList x1.toList))).drew.heap.size from by have := S5.out; simpa [World.setCell] using this)
        have X6 := ak_ (show (w5.setCell ⟨g, 1, none⟩ (.bool (!Op.bytesLess y.f0.toList x1.toList))).drew.heap[gx]? = _ from (Below.heap_setCell w5 ⟨g, 1, none⟩ (.bool (!Op.bytesLess y.f0.toList x1.toList)) gx GX.out).trans X5.out)
        clear hHeld f1 D55
        generalize (w5.setCell ⟨g, 1, none⟩ (.bool (!Op.bytesLess y.f0.toList x1.toList))).drew = w6 at T6 F6 X6 S6 ⊢
        go_wp2
        obtain ⟨hG6, hR6, hl6, hg6⟩ := T6.out
        have G6 := ak_ hG6
        have R6 := ak_ hR6
        have D6 := ak_ (show Below w6.heap.size w6 w6.drew from below_drew1 (Below.refl _ _))
        clear hG6 hR6 hl6 hg6
        refine start_ (n := 11) (S := (fun w' => w'.cell? ⟨g, 34, none⟩ = some (.slice (some ad) cs.length c0) ∧ w'.cell? ⟨gx, 0, none⟩ = some (.string x1) ∧ w'.cell? ⟨gx, 1, none⟩ = some (.bool true) ∧ w'.cell? ⟨gx, 2, none⟩ = some (.string v1))) (ds := [10]) #[false, false, false, false, false, false, false, false, false, false, false] (by kernel_rfl) rfl rfl ⟨(blk_cell (blk_below G6.out D6.out) 34).trans (tkCs34 HL.out.1), (blk_cell (blk_below X6.out D6.out) 0).trans rfl, (blk_cell (blk_below X6.out D6.out) 1).trans rfl, (blk_cell (blk_below X6.out D6.out) 2).trans rfl⟩ (fun hHeld => ?_)
        refine pu_ 0 49 ?_
        refine pu_ 1 50 ?_
        refine pu_ 2 51 ?_
        refine pu_ 3 52 ?_
        refine tk4_ 4 53 ?_
        refine tk4_ 5 54 ?_
        refine on_ 6 55 (fun K hK => ?_)
        refine Kd.R_lit_step k60 (w0 := w6.drew) w6.drew.heap.size 60 (by rfl) (N := 55) rfl (xs := [(⟨x1, true, v1⟩ : Ch)]) (inner := [.string x1, .bool true, .string v1]) (ok := fun _ => True) (okp := fun _ => True) (by first | (go_simp; done) | (go_simp; rfl)) (Reps.c3 (k60_mkM _ _ _ (⟨x1, true, v1⟩ : Ch)) (Reps.none _ _)) (fun _ hk => hk) trivial (Below.refl _ _) (Nat.le_refl _) (by simp) ?_
        intro v8 w8 ho hb hg_ hnew_
        have R8 := ak_ ho
        have B8 := ak_ (show Below w6.heap.size w6 w8 from below_then D6.out D6.out.size hb)
        obtain ⟨A8, c8, rfl⟩ := Kd.R_slice ho
        clear ho hb hg_ hnew_
        refine hK.out _ _ ⟨(blk_cell (blk_below G6.out B8.out) 34).trans (tkCs34 HL.out.1), (blk_cell (blk_below X6.out B8.out) 0).trans rfl, (blk_cell (blk_below X6.out B8.out) 1).trans rfl, (blk_cell (blk_below X6.out B8.out) 2).trans rfl⟩ (fun hHeld => ?_)
        clear hK K
        refine nm_ 55 ?_
        refine on_ 7 56 (fun K hK => ?_)
        refine append_wide_step (d := k60) (fun h => h) B (by rfl) (.tmp 53) (.tmp 55) 43 60 (.agg #[.string ⟨#[]⟩, .bool false, .string ⟨#[]⟩]) 40 rfl Tryz.underlying43 info_ch rfl (by decide) (.slice (some ad) cs.length c0) cs [(⟨x1, true, v1⟩ : Ch)] _ _ _ rfl rfl (Kd.R_below R6.out B8.out) (Kd.R_reads' R8.out).2.2 (Nat.le_trans HW.out (Nat.le_trans S6.out B8.out.size)) (by have := HGR.out; simp; omega) (by have := HGR.out; unfold maxLen; simp; omega) ?_
        intro v9 w9 ho hg
        have R9 := ak_ ho
        have GR := ak_ hg
        have G9 := ak_ (blk_grown (blk_below G6.out B8.out) hg (rowK_low (Kd.R_below R6.out B8.out) HL.out.2))
        have X9 := ak_ (blk_grown (blk_below X6.out B8.out) hg GV.out)
        clear ho hg
        refine hK.out _ _ ⟨(blk_cell G9.out 34).trans (tkCs34 HL.out.1), (blk_cell X9.out 0).trans rfl, (blk_cell X9.out 1).trans rfl, (blk_cell X9.out 2).trans rfl⟩ (fun hHeld => ?_)
        clear hK K
        refine nm_ 56 ?_
        obtain ⟨A9, c9, hv9⟩ := Kd.R_slice R9.out
        obtain ⟨n9, hn9⟩ : ∃ n9, n9 = (cs ++ [(⟨x1, true, v1⟩ : Ch)]).length := ⟨_, rfl⟩
        rw [← hn9] at hv9
        subst hv9
        clear hn9
        have f34 : w9.frozen? ⟨g, 34, none⟩ = false := blk_frozen G9.out 34
        refine pu_ 8 57 ?_
        refine pu_ 9 58 ?_
        refine last_ (i := 10) (N := none) #[true, true, true, true, true, true, true, true, true, true, true] rfl rfl (by kernel_rfl) (by decide) (fun K hK => ?_)
        refine skip_ (w1 := ?_) (by rfl) rfl ?_ ?_
        rotate_left
        · go_simp
          rfl
        refine hK.out _ _ ?_
        clear hK K
        refine done_ (by kernel_rfl) ?_
        clear hHeld f34
        go_wp2
        go_end0
        refine ⟨rfl, ?_, ((F6.out.below B8.out).grown GR.out (fun b hb => Nat.le_trans HW0.out (rowK_base R6.out b hb))).setg 34 _⟩
        rw [← HS.out, show notUp cs (ck ((⟨x1, true, v1⟩ : Ch))) = notUp cs x1.toList from rfl, HNB.out]
        exact ⟨_, TkR.push (blk_below G6.out B8.out) (Kd.R_below R6.out B8.out) HL.out.1 HL.out.2 R9.out GR.out⟩
  · have e1 : (n1 == 1) = false := beq_eq_false_iff_ne.2 h1
    have hC := HC.out
    rw [if_neg h1] at hC
    clear h1 HC
    by_cases h0 : n1 = 0
    · subst h0
      rw [if_pos rfl] at hC
      unfold tkA at hC
      split at hC
      case isFalse => cases hC
      case isTrue hgrd =>
      obtain ⟨l, bd, cs⟩ := s2
      have HS := ak_ (Option.some.inj hC)
      dsimp only at hgrd HS
      clear hC
      go_enter Tryz.func62, Tryz.ntmps62
      go_wp2_with (first
        | (go_at_call 61; refine (tk_num k g B bs s s1 1 0 v _ HT.out HN.out).mono ?_; rintro e w1 ⟨rfl, ht, hf⟩; have T1 := ak_ ht; have F1 := ak_ (HF.out.trans hf); have S1 := ak_ hf.size; clear ht hf)
        | (go_at_call 93; (with_reducible refine (tk_text k g B bs s1 ⟨l, bd, cs⟩ x1 v _ T1.out HX.out).mono ?_); rintro e w2 ⟨rfl, ht, hf⟩; have T2 := ak_ ht; have F2 := ak_ (F1.out.trans hf); have S2 := ak_ (Nat.le_trans S1.out hf.size); clear ht hf)
        | ((with_reducible refine gate_dst (N := 3) rfl ?_); refine var_event (N := 3) (T := 60) (n := 3) (zc := #[.string ⟨#[]⟩, .bool false, .string ⟨#[]⟩]) (cs := #[.string x1, .bool false, .string ⟨#[]⟩]) rfl rfl rfl (.tmp 9) rfl rfl ?hr (by kernel_rfl) rfl rfl rfl ?hx ?hN ?_; (case hx => intro p_; rfl); (case hN => intro p_; rfl); (case hr => first | (go_simp; done) | (go_simp; rfl)); intro gx hgx w3 hx3 hb3; have X3 := ak_ hx3; have T3 := ak_ (T2.out.below hb3); have F3 := ak_ (F2.out.below hb3); have GX := ak_ (show gx ≠ g by have := blk_lt T2.out.1; omega); have GV := ak_ (T2.out.old (Nat.le_of_eq hgx.symm)); have GN := ak_ (show w0.heap.size ≤ gx by have := F2.out.size; omega); have S3 := ak_ (Nat.le_trans S2.out hb3.size); clear hx3 hb3 hgx; obtain ⟨hG, hR, hl, hgB⟩ := T3.out; obtain ⟨A0, c0, rfl⟩ := Kd.R_slice hR; have G5 := ak_ hG; have R5 := ak_ hR; have HL := ak_ (And.intro hl hgB); have z34 : w3.cell? ⟨g, 34, none⟩ = some (.slice A0 cs.length c0) := (blk_cell hG 34).trans (tkCs34 hl); have X5 := ak_ X3.out; have T5 := ak_ T3.out; have F5 := ak_ F3.out; have S5 := ak_ S3.out; clear hG hR hl hgB))
      clear z34
      obtain ⟨w5, hw5⟩ : ∃ w5, w5 = w3 := ⟨_, rfl⟩
      rw [← hw5] at G5 R5 X5 T5 F5 S5 ⊢
      clear hw5
      have HGR := ak_ hgrd
      clear hgrd
      have D5 := ak_ (show Below w5.heap.size w5 w5.drew from below_drew1 (Below.refl _ _))
      have f1 : w5.drew.frozen? ⟨g, 1, none⟩ = false := blk_frozen (blk_below G5.out D5.out) 1
      cases bd with
      | true =>
        have HNB := ak_ (show (true || notUp cs x1.toList) = true from rfl)
        refine start_ (n := 26) (S := (fun w' => w'.cell? ⟨g, 1, none⟩ = some (.bool true))) (ds := [25]) #[false, false, false, false, false, false, false, false, false, false, false, false, false, false, false, false, false, false, false, false, false, false, false, false, false, false] (by kernel_rfl) rfl rfl ((blk_cell (blk_below G5.out D5.out) 1).trans rfl) (fun hHeld => ?_)
        refine pu_ 0 24 ?_
        refine pu_ 1 25 ?_
        refine pu_ 2 26 ?_
        refine pu_ 3 27 ?_
        refine take_ (i := 4) (N := some 28) (v := ?_) (a' := ?_) #[true, true, true, true, true, false, false, false, false, false, false, false, false, false, false, false, false, false, false, false, false, false, false, false, false, false] rfl rfl (by kernel_rfl) (fun _ _ _ h => h) (Or.inl ⟨by rfl, ?_⟩) hHeld ?_ ?_
        rotate_left
        · rintro w' s0
          go_simp
          with_reducible rfl
        rotate_left
        · simp only [Act.put, List.setIfInBounds_toArray, List.set_cons_zero, List.set_cons_succ, i64_w, i32_w]
          rfl
        refine pu_ 5 29 ?_
        refine un_ 6 30 ?_
        refine un_ 7 31 ?_
        refine un_ 8 32 ?_
        refine un_ 9 33 ?_
        refine un_ 10 34 ?_
        refine un_ 11 35 ?_
        refine un_ 12 36 ?_
        refine un_ 13 37 ?_
        refine un_ 14 38 ?_
        refine un_ 15 39 ?_
        refine un_ 16 40 ?_
        refine un_ 17 41 ?_
        refine un_ 18 42 ?_
        refine un_ 19 43 ?_
        refine un_ 20 44 ?_
        refine un_ 21 45 ?_
        refine pu_ 22 46 ?_
        refine pu_ 23 47 ?_
        refine pu_ 24 48 ?_
        refine last_ (i := 25) (N := none) #[true, true, true, true, true, true, true, true, true, true, true, true, true, true, true, true, true, true, true, true, true, true, true, true, true, true] rfl rfl (by kernel_rfl) (by decide) (fun K hK => ?_)
        refine skip_ (w1 := ?_) (by rfl) rfl ?_ ?_
        rotate_left
        · go_simp
          rfl
        refine hK.out _ _ ?_
        clear hK K
        refine done_ (by kernel_rfl) ?_
        have D55 := ak_ (show Below (w5.setCell ⟨g, 1, none⟩ (.bool (true))).heap.size (w5.setCell ⟨g, 1, none⟩ (.bool (true))) (w5.setCell ⟨g, 1, none⟩ (.bool (true))).drew from below_drew1 (Below.refl _ _))
        have T6 := ak_ ((T5.out.set1 (true)).below D55.out)
        have F6 := ak_ ((F5.out.setg 1 (.bool (true))).below D55.out)
        have S6 := ak_ (show w.heap.size ≤ (w5.setCell ⟨g, 1, none⟩ (.bool (true))).drew.heap.size from by have := S5.out; simpa [World.setCell] using this)
        have X6 := ak_ (show (w5.setCell ⟨g, 1, none⟩ (.bool (true))).drew.heap[gx]? = _ from (Below.heap_setCell w5 ⟨g, 1, none⟩ (.bool (true)) gx GX.out).trans X5.out)
        clear hHeld f1 D55
        generalize (w5.setCell ⟨g, 1, none⟩ (.bool (true))).drew = w6 at T6 F6 X6 S6 ⊢
        go_wp2
        obtain ⟨hG6, hR6, hl6, hg6⟩ := T6.out
        have G6 := ak_ hG6
        have R6 := ak_ hR6
        have D6 := ak_ (show Below w6.heap.size w6 w6.drew from below_drew1 (Below.refl _ _))
        clear hG6 hR6 hl6 hg6
        refine start_ (n := 11) (S := (fun w' => w'.cell? ⟨g, 34, none⟩ = some (.slice A0 cs.length c0) ∧ w'.cell? ⟨gx, 0, none⟩ = some (.string x1) ∧ w'.cell? ⟨gx, 1, none⟩ = some (.bool false) ∧ w'.cell? ⟨gx, 2, none⟩ = some (.string ⟨#[]⟩))) (ds := [10]) #[false, false, false, false, false, false, false, false, false, false, false] (by kernel_rfl) rfl rfl ⟨(blk_cell (blk_below G6.out D6.out) 34).trans (tkCs34 HL.out.1), (blk_cell (blk_below X6.out D6.out) 0).trans rfl, (blk_cell (blk_below X6.out D6.out) 1).trans rfl, (blk_cell (blk_below X6.out D6.out) 2).trans rfl⟩ (fun hHeld => ?_)
        refine pu_ 0 49 ?_
        refine pu_ 1 50 ?_
        refine pu_ 2 51 ?_
        refine pu_ 3 52 ?_
        refine tk4_ 4 53 ?_
        refine tk4_ 5 54 ?_
        refine on_ 6 55 (fun K hK => ?_)
        refine Kd.R_lit_step k60 (w0 := w6.drew) w6.drew.heap.size 60 (by rfl) (N := 55) rfl (xs := [(⟨x1, false, ⟨#[]⟩⟩ : Ch)]) (inner := [.string x1, .bool false, .string ⟨#[]⟩]) (ok := fun _ => True) (okp := fun _ => True) (by first | (go_simp; done) | (go_simp; rfl)) (Reps.c3 (k60_mkM _ _ _ (⟨x1, false, ⟨#[]⟩⟩ : Ch)) (Reps.none _ _)) (fun _ hk => hk) trivial (Below.refl _ _) (Nat.le_refl _) (by simp) ?_
        intro v8 w8 ho hb hg_ hnew_
        have R8 := ak_ ho
        have B8 := ak_ (show Below w6.heap.size w6 w8 from below_then D6.out D6.out.size hb)
        obtain ⟨A8, c8, rfl⟩ := Kd.R_slice ho
        clear ho hb hg_ hnew_
        refine hK.out _ _ ⟨(blk_cell (blk_below G6.out B8.out) 34).trans (tkCs34 HL.out.1), (blk_cell (blk_below X6.out B8.out) 0).trans rfl, (blk_cell (blk_below X6.out B8.out) 1).trans rfl, (blk_cell (blk_below X6.out B8.out) 2).trans rfl⟩ (fun hHeld => ?_)
        clear hK K
        refine nm_ 55 ?_
        refine on_ 7 56 (fun K hK => ?_)
        refine append_wide_step (d := k60) (fun h => h) B (by rfl) (.tmp 53) (.tmp 55) 43 60 (.agg #[.string ⟨#[]⟩, .bool false, .string ⟨#[]⟩]) 40 rfl Tryz.underlying43 info_ch rfl (by decide) (.slice A0 cs.length c0) cs [(⟨x1, false, ⟨#[]⟩⟩ : Ch)] _ _ _ rfl rfl (Kd.R_below R6.out B8.out) (Kd.R_reads' R8.out).2.2 (Nat.le_trans HW.out (Nat.le_trans S6.out B8.out.size)) (by have := HGR.out; simp; omega) (by have := HGR.out; unfold maxLen; simp; omega) ?_
        intro v9 w9 ho hg
        have R9 := ak_ ho
        have GR := ak_ hg
        have G9 := ak_ (blk_grown (blk_below G6.out B8.out) hg (rowK_low (Kd.R_below R6.out B8.out) HL.out.2))
        have X9 := ak_ (blk_grown (blk_below X6.out B8.out) hg GV.out)
        clear ho hg
        refine hK.out _ _ ⟨(blk_cell G9.out 34).trans (tkCs34 HL.out.1), (blk_cell X9.out 0).trans rfl, (blk_cell X9.out 1).trans rfl, (blk_cell X9.out 2).trans rfl⟩ (fun hHeld => ?_)
        clear hK K
        refine nm_ 56 ?_
        obtain ⟨A9, c9, hv9⟩ := Kd.R_slice R9.out
        obtain ⟨n9, hn9⟩ : ∃ n9, n9 = (cs ++ [(⟨x1, false, ⟨#[]⟩⟩ : Ch)]).length := ⟨_, rfl⟩
        rw [← hn9] at hv9
        subst hv9
        clear hn9
        have f34 : w9.frozen? ⟨g, 34, none⟩ = false := blk_frozen G9.out 34
        refine pu_ 8 57 ?_
        refine pu_ 9 58 ?_
        refine last_ (i := 10) (N := none) #[true, true, true, true, true, true, true, true, true, true, true] rfl rfl (by kernel_rfl) (by decide) (fun K hK => ?_)
        refine skip_ (w1 := ?_) (by rfl) rfl ?_ ?_
        rotate_left
        · go_simp
          rfl
        refine hK.out _ _ ?_
        clear hK K
        refine done_ (by kernel_rfl) ?_
        clear hHeld f34
        go_wp2
        go_end0
        refine ⟨rfl, ?_, ((F6.out.below B8.out).grown GR.out (fun b hb => Nat.le_trans HW0.out (rowK_base R6.out b hb))).setg 34 _⟩
        rw [← HS.out, show notUp cs (ck ((⟨x1, false, ⟨#[]⟩⟩ : Ch))) = notUp cs x1.toList from rfl, HNB.out]
        exact ⟨_, TkR.push (blk_below G6.out B8.out) (Kd.R_below R6.out B8.out) HL.out.1 HL.out.2 R9.out GR.out⟩
      | false =>
        by_cases hz : cs.length = 0
        · have e1 : decide ((0 : Int) < (cs.length : Int)) = false := decide_eq_false (by omega)
          have e2 : decide (0 < cs.length) = false := decide_eq_false (by omega)
          have HNB := ak_ (show (false || notUp cs x1.toList) = false by rw [Bool.false_or]; exact notUp_nil hz _)
          clear hz
          refine start_ (n := 26) (S := (fun w' => w'.cell? ⟨g, 1, none⟩ = some (.bool false))) (ds := [25]) #[false, false, false, false, false, false, false, false, false, false, false, false, false, false, false, false, false, false, false, false, false, false, false, false, false, false] (by kernel_rfl) rfl rfl ((blk_cell (blk_below G5.out D5.out) 1).trans rfl) (fun hHeld => ?_)
          refine pu_ 0 24 ?_
          refine pu_ 1 25 ?_
          refine pu_ 2 26 ?_
          refine pu_ 3 27 ?_
          refine take_ (i := 4) (N := some 28) (v := ?_) (a' := ?_) #[true, true, true, true, true, false, false, false, false, false, false, false, false, false, false, false, false, false, false, false, false, false, false, false, false, false] rfl rfl (by kernel_rfl) (fun _ _ _ h => h) (Or.inl ⟨by rfl, ?_⟩) hHeld ?_ ?_
          rotate_left
          · rintro w' s0
            go_simp
            with_reducible rfl
          rotate_left
          · simp only [Act.put, List.setIfInBounds_toArray, List.set_cons_zero, List.set_cons_succ, i64_w, i32_w]
            rfl
          refine pu_ 5 29 ?_
          refine pu_ 6 30 ?_
          refine pu_ 7 31 ?_
          refine pu_ 8 32 ?_
          refine un_ 9 33 ?_
          refine un_ 10 34 ?_
          refine un_ 11 35 ?_
          refine un_ 12 36 ?_
          refine un_ 13 37 ?_
          refine un_ 14 38 ?_
          refine un_ 15 39 ?_
          refine un_ 16 40 ?_
          refine un_ 17 41 ?_
          refine un_ 18 42 ?_
          refine un_ 19 43 ?_
          refine un_ 20 44 ?_
          refine pu_ 21 45 ?_
          refine pu_ 22 46 ?_
          refine pu_ 23 47 ?_
          refine pu_ 24 48 ?_
          refine last_ (i := 25) (N := none) #[true, true, true, true, true, true, true, true, true, true, true, true, true, true, true, true, true, true, true, true, true, true, true, true, true, true] rfl rfl (by kernel_rfl) (by decide) (fun K hK => ?_)
          refine skip_ (w1 := ?_) (by rfl) rfl ?_ ?_
          rotate_left
          · go_simp
            rfl
          refine hK.out _ _ ?_
          clear hK K
          refine done_ (by kernel_rfl) ?_
          have D55 := ak_ (show Below (w5.setCell ⟨g, 1, none⟩ (.bool (false))).heap.size (w5.setCell ⟨g, 1, none⟩ (.bool (false))) (w5.setCell ⟨g, 1, none⟩ (.bool (false))).drew from below_drew1 (Below.refl _ _))
          have T6 := ak_ ((T5.out.set1 (false)).below D55.out)
          have F6 := ak_ ((F5.out.setg 1 (.bool (false))).below D55.out)
          have S6 := ak_ (show w.heap.size ≤ (w5.setCell ⟨g, 1, none⟩ (.bool (false))).drew.heap.size from by have := S5.out; simpa [World.setCell] using this)
          have X6 := ak_ (show (w5.setCell ⟨g, 1, none⟩ (.bool (false))).drew.heap[gx]? = _ from (Below.heap_setCell w5 ⟨g, 1, none⟩ (.bool (false)) gx GX.out).trans X5.out)
          clear hHeld f1 D55
          generalize (w5.setCell ⟨g, 1, none⟩ (.bool (false))).drew = w6 at T6 F6 X6 S6 ⊢
          go_wp2
          obtain ⟨hG6, hR6, hl6, hg6⟩ := T6.out
          have G6 := ak_ hG6
          have R6 := ak_ hR6
          have D6 := ak_ (show Below w6.heap.size w6 w6.drew from below_drew1 (Below.refl _ _))
          clear hG6 hR6 hl6 hg6
          refine start_ (n := 11) (S := (fun w' => w'.cell? ⟨g, 34, none⟩ = some (.slice A0 cs.length c0) ∧ w'.cell? ⟨gx, 0, none⟩ = some (.string x1) ∧ w'.cell? ⟨gx, 1, none⟩ = some (.bool false) ∧ w'.cell? ⟨gx, 2, none⟩ = some (.string ⟨#[]⟩))) (ds := [10]) #[false, false, false, false, false, false, false, false, false, false, false] (by kernel_rfl) rfl rfl ⟨(blk_cell (blk_below G6.out D6.out) 34).trans (tkCs34 HL.out.1), (blk_cell (blk_below X6.out D6.out) 0).trans rfl, (blk_cell (blk_below X6.out D6.out) 1).trans rfl, (blk_cell (blk_below X6.out D6.out) 2).trans rfl⟩ (fun hHeld => ?_)
          refine pu_ 0 49 ?_
          refine pu_ 1 50 ?_
          refine pu_ 2 51 ?_
          refine pu_ 3 52 ?_
          refine tk4_ 4 53 ?_
          refine tk4_ 5 54 ?_
          refine on_ 6 55 (fun K hK => ?_)
          refine Kd.R_lit_step k60 (w0 := w6.drew) w6.drew.heap.size 60 (by rfl) (N := 55) rfl (xs := [(⟨x1, false, ⟨#[]⟩⟩ : Ch)]) (inner := [.string x1, .bool false, .string ⟨#[]⟩]) (ok := fun _ => True) (okp := fun _ => True) (by first | (go_simp; done) | (go_simp; rfl)) (Reps.c3 (k60_mkM _ _ _ (⟨x1, false, ⟨#[]⟩⟩ : Ch)) (Reps.none _ _)) (fun _ hk => hk) trivial (Below.refl _ _) (Nat.le_refl _) (by simp) ?_
          intro v8 w8 ho hb hg_ hnew_
          have R8 := ak_ ho
          have B8 := ak_ (show Below w6.heap.size w6 w8 from below_then D6.out D6.out.size hb)
          obtain ⟨A8, c8, rfl⟩ := Kd.R_slice ho
          clear ho hb hg_ hnew_
          refine hK.out _ _ ⟨(blk_cell (blk_below G6.out B8.out) 34).trans (tkCs34 HL.out.1), (blk_cell (blk_below X6.out B8.out) 0).trans rfl, (blk_cell (blk_below X6.out B8.out) 1).trans rfl, (blk_cell (blk_below X6.out B8.out) 2).trans rfl⟩ (fun hHeld => ?_)
          clear hK K
          refine nm_ 55 ?_
          refine on_ 7 56 (fun K hK => ?_)
          refine append_wide_step (d := k60) (fun h => h) B (by rfl) (.tmp 53) (.tmp 55) 43 60 (.agg #[.string ⟨#[]⟩, .bool false, .string ⟨#[]⟩]) 40 rfl Tryz.underlying43 info_ch rfl (by decide) (.slice A0 cs.length c0) cs [(⟨x1, false, ⟨#[]⟩⟩ : Ch)] _ _ _ rfl rfl (Kd.R_below R6.out B8.out) (Kd.R_reads' R8.out).2.2 (Nat.le_trans HW.out (Nat.le_trans S6.out B8.out.size)) (by have := HGR.out; simp; omega) (by have := HGR.out; unfold maxLen; simp; omega) ?_
          intro v9 w9 ho hg
          have R9 := ak_ ho
          have GR := ak_ hg
          have G9 := ak_ (blk_grown (blk_below G6.out B8.out) hg (rowK_low (Kd.R_below R6.out B8.out) HL.out.2))
          have X9 := ak_ (blk_grown (blk_below X6.out B8.out) hg GV.out)
          clear ho hg
          refine hK.out _ _ ⟨(blk_cell G9.out 34).trans (tkCs34 HL.out.1), (blk_cell X9.out 0).trans rfl, (blk_cell X9.out 1).trans rfl, (blk_cell X9.out 2).trans rfl⟩ (fun hHeld => ?_)
          clear hK K
          refine nm_ 56 ?_
          obtain ⟨A9, c9, hv9⟩ := Kd.R_slice R9.out
          obtain ⟨n9, hn9⟩ : ∃ n9, n9 = (cs ++ [(⟨x1, false, ⟨#[]⟩⟩ : Ch)]).length := ⟨_, rfl⟩
          rw [← hn9] at hv9
          subst hv9
          clear hn9
          have f34 : w9.frozen? ⟨g, 34, none⟩ = false := blk_frozen G9.out 34
          refine pu_ 8 57 ?_
          refine pu_ 9 58 ?_
          refine last_ (i := 10) (N := none) #[true, true, true, true, true, true, true, true, true, true, true] rfl rfl (by kernel_rfl) (by decide) (fun K hK => ?_)
          refine skip_ (w1 := ?_) (by rfl) rfl ?_ ?_
          rotate_left
          · go_simp
            rfl
          refine hK.out _ _ ?_
          clear hK K
          refine done_ (by kernel_rfl) ?_
          clear hHeld f34
          go_wp2
          go_end0
          refine ⟨rfl, ?_, ((F6.out.below B8.out).grown GR.out (fun b hb => Nat.le_trans HW0.out (rowK_base R6.out b hb))).setg 34 _⟩
          rw [← HS.out, show notUp cs (ck ((⟨x1, false, ⟨#[]⟩⟩ : Ch))) = notUp cs x1.toList from rfl, HNB.out]
          exact ⟨_, TkR.push (blk_below G6.out B8.out) (Kd.R_below R6.out B8.out) HL.out.1 HL.out.2 R9.out GR.out⟩
        · have e1 : decide ((0 : Int) < (cs.length : Int)) = true := decide_eq_true (by omega)
          have e2 : decide (0 < cs.length) = true := decide_eq_true (by omega)
          obtain ⟨j, hj⟩ : ∃ j, j = (cs.length : Int) - 1 := ⟨_, rfl⟩
          have hj0 : 0 ≤ j := by omega
          have hj1 : j < (cs.length : Int) := by omega
          have ej : wrap64 ((cs.length : Int) - 1) = j := by have := HGR.out; rw [hj]; unfold wrap64; omega
          have p0 := eq_true hj0
          have p1 := eq_true hj1
          obtain ⟨y, hy⟩ : ∃ y, y = rd_T60 cs j := ⟨_, rfl⟩
          obtain ⟨ad, hAd, k0, _, _⟩ := at_T60 (Kd.R_reads' (Kd.R_below R5.out D5.out)).2.2 j hj0 hj1
          subst hAd
          rw [← hy] at k0
          have HNB := ak_ (show (false || notUp cs x1.toList) = !Op.bytesLess y.f0.toList x1.toList by rw [hy, Bool.false_or]; exact notUp_last hj0 hj _)
          clear hz hj0 hj1 hj hy
          refine start_ (n := 26) (S := (fun w' => w'.cell? ⟨g, 1, none⟩ = some (.bool false) ∧ w'.cell? ⟨g, 34, none⟩ = some (.slice (some ad) cs.length c0) ∧ w'.cell? (ad.add (j.toNat * 3)) = some (.string y.f0) ∧ w'.cell? ⟨gx, 0, none⟩ = some (.string x1))) (ds := [25]) #[false, false, false, false, false, false, false, false, false, false, false, false, false, false, false, false, false, false, false, false, false, false, false, false, false, false] (by kernel_rfl) rfl rfl ⟨(blk_cell (blk_below G5.out D5.out) 1).trans rfl, (blk_cell (blk_below G5.out D5.out) 34).trans (tkCs34 HL.out.1), k0, (blk_cell (blk_below X5.out D5.out) 0).trans rfl⟩ (fun hHeld => ?_)
          refine pu_ 0 24 ?_
          refine pu_ 1 25 ?_
          refine pu_ 2 26 ?_
          refine pu_ 3 27 ?_
          refine tk4_ 4 28 ?_
          refine pu_ 5 29 ?_
          refine pu_ 6 30 ?_
          refine pu_ 7 31 ?_
          refine pu_ 8 32 ?_
          refine pu_ 9 33 ?_
          refine pu_ 10 34 ?_
          refine pu_ 11 35 ?_
          refine tk4_ 12 36 ?_
          refine pu_ 13 37 ?_
          refine pu_ 14 38 ?_
          refine pu_ 15 39 ?_
          refine pu_ 16 40 ?_
          refine tk4_ 17 41 ?_
          refine pu_ 18 42 ?_
          refine tk4_ 19 43 ?_
          refine pu_ 20 44 ?_
          refine pu_ 21 45 ?_
          refine pu_ 22 46 ?_
          refine pu_ 23 47 ?_
          refine pu_ 24 48 ?_
          refine last_ (i := 25) (N := none) #[true, true, true, true, true, true, true, true, true, true, true, true, true, true, true, true, true, true, true, true, true, true, true, true, true, true] rfl rfl (by kernel_rfl) (by decide) (fun K hK => ?_)
          refine skip_ (w1 := ?_) (by rfl) rfl ?_ ?_
          rotate_left
          · go_simp
            rfl
          refine hK.out _ _ ?_
          clear hK K
          refine done_ (by kernel_rfl) ?_
          have D55 := ak_ (show Below (w5.setCell ⟨g, 1, none⟩ (.bool (!Op.bytesLess y.f0.toList x1.toList))).heap.size (w5.setCell ⟨g, 1, none⟩ (.bool (!Op.bytesLess y.f0.toList x1.toList))) (w5.setCell ⟨g, 1, none⟩ (.bool (!Op.bytesLess y.f0.toList x1.toList))).drew from below_drew1 (Below.refl _ _))
          have T6 := ak_ ((T5.out.set1 (!Op.bytesLess y.f0.toList x1.toList)).below D55.out)
          have F6 := ak_ ((F5.out.setg 1 (.bool (!Op.bytesLess y.f0.toList x1.toList))).below D55.out)
          have S6 := ak_ (show w.heap.size ≤ (w5.setCell ⟨g, 1, none⟩ (.bool (!Op.bytesLess y.f0.toList x1.toList))).drew.heap.size from by have := S5.out; simpa [World.setCell] using this)
          have X6 := ak_ (show (w5.setCell ⟨g, 1, none⟩ (.bool (!Op.bytesLess y.f0.toList x1.toList))).drew.heap[gx]? = _ from (Below.heap_setCell w5 ⟨g, 1, none⟩ (.bool (!Op.bytesLess y.f0.toList x1.toList)) gx GX.out).trans X5.out)
          clear hHeld f1 D55
          generalize (w5.setCell ⟨g, 1, none⟩ (.bool (!Op.bytesLess y.f0.toList x1.toList))).drew = w6 at T6 F6 X6 S6 ⊢
          go_wp2
          obtain ⟨hG6, hR6, hl6, hg6⟩ := T6.out
          have G6 := ak_ hG6
          have R6 := ak_ hR6
          have D6 := ak_ (show Below w6.heap.size w6 w6.drew from below_drew1 (Below.refl _ _))
          clear hG6 hR6 hl6 hg6
          refine start_ (n := 11) (S := (fun w' => w'.cell? ⟨g, 34, none⟩ = some (.slice (some ad) cs.length c0) ∧ w'.cell? ⟨gx, 0, none⟩ = some (.string x1) ∧ w'.cell? ⟨gx, 1, none⟩ = some (.bool false) ∧ w'.cell? ⟨gx, 2, none⟩ = some (.string ⟨#[]⟩))) (ds := [10]) #[false, false, false, false, false, false, false, false, false, false, false] (by kernel_rfl) rfl rfl ⟨(blk_cell (blk_below G6.out D6.out) 34).trans (tkCs34 HL.out.1), (blk_cell (blk_below X6.out D6.out) 0).trans rfl, (blk_cell (blk_below X6.out D6.out) 1).trans rfl, (blk_cell (blk_below X6.out D6.out) 2).trans rfl⟩ (fun hHeld => ?_)
          refine pu_ 0 49 ?_
          refine pu_ 1 50 ?_
          refine pu_ 2 51 ?_
          refine pu_ 3 52 ?_
          refine tk4_ 4 53 ?_
          refine tk4_ 5 54 ?_
          refine on_ 6 55 (fun K hK => ?_)
          refine Kd.R_lit_step k60 (w0 := w6.drew) w6.drew.heap.size 60 (by rfl) (N := 55) rfl (xs := [(⟨x1, false, ⟨#[]⟩⟩ : Ch)]) (inner := [.string x1, .bool false, .string ⟨#[]⟩]) (ok := fun _ => True) (okp := fun _ => True) (by first | (go_simp; done) | (go_simp; rfl)) (Reps.c3 (k60_mkM _ _ _ (⟨x1, false, ⟨#[]⟩⟩ : Ch)) (Reps.none _ _)) (fun _ hk => hk) trivial (Below.refl _ _) (Nat.le_refl _) (by simp) ?_
          intro v8 w8 ho hb hg_ hnew_
          have R8 := ak_ ho
          have B8 := ak_ (show Below w6.heap.size w6 w8 from below_then D6.out D6.out.size hb)
          obtain ⟨A8, c8, rfl⟩ := Kd.R_slice ho
          clear ho hb hg_ hnew_
          refine hK.out _ _ ⟨(blk_cell (blk_below G6.out B8.out) 34).trans (tkCs34 HL.out.1), (blk_cell (blk_below X6.out B8.out) 0).trans rfl, (blk_cell (blk_below X6.out B8.out) 1).trans rfl, (blk_cell (blk_below X6.out B8.out) 2).trans rfl⟩ (fun hHeld => ?_)
          clear hK K
          refine nm_ 55 ?_
          refine on_ 7 56 (fun K hK => ?_)
          refine append_wide_step (d := k60) (fun h => h) B (by rfl) (.tmp 53) (.tmp 55) 43 60 (.agg #[.string ⟨#[]⟩, .bool false, .string ⟨#[]⟩]) 40 rfl Tryz.underlying43 info_ch rfl (by decide) (.slice (some ad) cs.length c0) cs [(⟨x1, false, ⟨#[]⟩⟩ : Ch)] _ _ _ rfl rfl (Kd.R_below R6.out B8.out) (Kd.R_reads' R8.out).2.2 (Nat.le_trans HW.out (Nat.le_trans S6.out B8.out.size)) (by have := HGR.out; simp; omega) (by have := HGR.out; unfold maxLen; simp; omega) ?_
          intro v9 w9 ho hg
          have R9 := ak_ ho
          have GR := ak_ hg
          have G9 := ak_ (blk_grown (blk_below G6.out B8.out) hg (rowK_low (Kd.R_below R6.out B8.out) HL.out.2))
          have X9 := ak_ (blk_grown (blk_below X6.out B8.out) hg GV.out)
          clear ho hg
          refine hK.out _ _ ⟨(blk_cell G9.out 34).trans (tkCs34 HL.out.1), (blk_cell X9.out 0).trans rfl, (blk_cell X9.out 1).trans rfl, (blk_cell X9.out 2).trans rfl⟩ (fun hHeld => ?_)
          clear hK K
          refine nm_ 56 ?_
          obtain ⟨A9, c9, hv9⟩ := Kd.R_slice R9.out
          obtain ⟨n9, hn9⟩ : ∃ n9, n9 = (cs ++ [(⟨x1, false, ⟨#[]⟩⟩ : Ch)]).length := ⟨_, rfl⟩
          rw [← hn9] at hv9
          subst hv9
          clear hn9
          have f34 : w9.frozen? ⟨g, 34, none⟩ = false := blk_frozen G9.out 34
          refine pu_ 8 57 ?_
          refine pu_ 9 58 ?_
          refine last_ (i := 10) (N := none) #[true, true, true, true, true, true, true, true, true, true, true] rfl rfl (by kernel_rfl) (by decide) (fun K hK => ?_)
          refine skip_ (w1 := ?_) (by rfl) rfl ?_ ?_
          rotate_left
          · go_simp
            rfl
          refine hK.out _ _ ?_
          clear hK K
          refine done_ (by kernel_rfl) ?_
          clear hHeld f34
          go_wp2
          go_end0
          refine ⟨rfl, ?_, ((F6.out.below B8.out).grown GR.out (fun b hb => Nat.le_trans HW0.out (rowK_base R6.out b hb))).setg 34 _⟩
          rw [← HS.out, show notUp cs (ck ((⟨x1, false, ⟨#[]⟩⟩ : Ch))) = notUp cs x1.toList from rfl, HNB.out]
          exact ⟨_, TkR.push (blk_below G6.out B8.out) (Kd.R_below R6.out B8.out) HL.out.1 HL.out.2 R9.out GR.out⟩
    · rw [if_neg h0] at hC
      have e0 : (n1 == 0) = false := beq_eq_false_iff_ne.2 h0
      obtain ⟨l, bd, cs⟩ := s2
      have HS := ak_ (Option.some.inj hC)
      dsimp only at HS
      clear hC h0
      go_enter Tryz.func62, Tryz.ntmps62
      go_wp2_with (first
        | (go_at_call 61; refine (tk_num k g B bs s s1 1 n1 v _ HT.out HN.out).mono ?_; rintro e w1 ⟨rfl, ht, hf⟩; have T1 := ak_ ht; have F1 := ak_ (HF.out.trans hf); have S1 := ak_ hf.size; clear ht hf)
        | (go_at_call 93; (with_reducible refine (tk_text k g B bs s1 ⟨l, bd, cs⟩ x1 v _ T1.out HX.out).mono ?_); rintro e w2 ⟨rfl, ht, hf⟩; have T2 := ak_ ht; have F2 := ak_ (F1.out.trans hf); have S2 := ak_ (Nat.le_trans S1.out hf.size); clear ht hf)
        | ((with_reducible refine gate_dst (N := 3) rfl ?_); refine var_event (N := 3) (T := 60) (n := 3) (zc := #[.string ⟨#[]⟩, .bool false, .string ⟨#[]⟩]) (cs := #[.string x1, .bool false, .string ⟨#[]⟩]) rfl rfl rfl (.tmp 9) rfl rfl ?hr (by kernel_rfl) rfl rfl rfl ?hx ?hN ?_; (case hx => intro p_; rfl); (case hN => intro p_; rfl); (case hr => first | (go_simp; done) | (go_simp; rfl)); intro gx hgx w3 hx3 hb3; have X3 := ak_ hx3; have T3 := ak_ (T2.out.below hb3); have F3 := ak_ (F2.out.below hb3); have GX := ak_ (show gx ≠ g by have := blk_lt T2.out.1; omega); have GV := ak_ (T2.out.old (Nat.le_of_eq hgx.symm)); have GN := ak_ (show w0.heap.size ≤ gx by have := F2.out.size; omega); have S3 := ak_ (Nat.le_trans S2.out hb3.size); clear hx3 hb3 hgx; have hG := T3.out.1; have z1 : w3.cell? ⟨g, 1, none⟩ = some (.bool bd) := (blk_cell hG 1).trans rfl; have f1 : w3.frozen? ⟨g, 1, none⟩ = false := blk_frozen hG 1; clear hG))
      go_end0
      refine ⟨rfl, ?_, F3.out.setg 1 _⟩
      rw [← HS.out]
      exact ⟨_, T3.out.set1 true⟩
end Go.Proofs.YtfkofbabeghgkaaGreat.Z
end

section
namespace Go.Proofs.YtfkofbabeghgkaaGreat.Z
theorem cp_one (l : List UInt8) : ∀ v ∈ Lib.byteCells l, v.oneCell' = true := by
  intro v hv
  unfold Lib.byteCells at hv
  obtain ⟨b, _, rfl⟩ := List.mem_map.1 hv
  rfl
theorem run_copy_strC {P : Program} (w : World) (dT sT ty elem : TypeId) (g o dLen dCap : Nat) (s : ByteArray) (cur : Array Value) (t : TypeId)
    (hu : P.underlying dT = some (.slice elem)) (hs : (P.info? elem).map (·.size) = some 1) (hg : w.heap[g]? = some (.cells cur t (0, 0))) (hfit : o + dLen ≤ cur.size) :
    (Builtin.copy_ #[dT, sT] ty #[.slice (some ⟨g, o, none⟩) dLen dCap, .string s]).run P w =
      .ok (goInt (min s.size dLen : Nat)) (w.setRow g (cur.toList.take o ++ Lib.byteCells (s.data.toList.take dLen) ++ cur.toList.drop (o + min s.size dLen)).toArray) := by
  have hsz := Lib.size_eq s
  have hlen : (Lib.byteCells (s.data.toList.take dLen)).length = min s.size dLen := by rw [Lib.byteCells_length, List.length_take, ← hsz, Nat.min_comm]
  have hst := run_storeCells_at P g o t (Lib.byteCells (s.data.toList.take dLen)) 0 cur w hg (by rw [hlen]; simp; omega) (cp_one _)
  have htk : List.take (Nat.min s.size dLen) (List.map (fun b : UInt8 => Value.int IntKind.u8 (b.toNat : Int)) s.data.toList) = Lib.byteCells (s.data.toList.take dLen) := by
    unfold Lib.byteCells
    rw [List.map_take]
    have e : ∀ l : List Value, l.length = s.size → l.take (Nat.min s.size dLen) = l.take dLen := fun l hl => by
      by_cases h : s.size ≤ dLen
      · rw [show Nat.min s.size dLen = s.size from Nat.min_eq_left h, List.take_of_length_le (by omega), List.take_of_length_le (by omega)]
      · rw [show Nat.min s.size dLen = dLen from Nat.min_eq_right (by omega)]
    exact e _ (by rw [List.length_map, ← hsz])
  rw [hlen] at hst
  simp only [Nat.add_zero] at hst
  cases hq : P.info? elem with
  | none => simp [hq] at hs
  | some i =>
    simp [Builtin.copy_, run_underlying hu, Builtin.lenOf, Builtin.firstCells, sizeOf, typeInfo, hq]
    rw [htk, hst]
    simp [Result.andThen]
theorem copy_eventC {P : Program} {ops : Array Oper} {rest : List Oper} {o : Oper} {a : Act} {Q : Exit → Act → World → Prop} {W : World} (hgd : o.guard = none) (d x : Operand) (dT sT elem : TypeId) (hop : o.op = .call { callee := .builtin .copy, args := #[d, x], argTypes := #[dT, sT] })
    (hu : P.underlying dT = some (.slice elem)) (hs : (P.info? elem).map (·.size) = some 1) (g off dLen dCap : Nat) (hd : a.eval d = .slice (some ⟨g, off, none⟩) dLen dCap) (s : ByteArray) (hx : a.eval x = .string s) (cur : Array Value) (t : TypeId)
    (hg : W.heap[g]? = some (.cells cur t (0, 0))) (hfit : off + dLen ≤ cur.size)
    (h : wpList P ops Q rest (a.put o.dst (goInt (min s.size dLen : Nat))) (W.setRow g (cur.toList.take off ++ Lib.byteCells (s.data.toList.take dLen) ++ cur.toList.drop (off + min s.size dLen)).toArray)) : wpList P ops Q (o :: rest) a W := by
  refine wpList_plain hgd fun K hK => ?_
  have hrun := run_copy_strC (P := P) W dT sT o.type elem g off dLen dCap s cur t hu hs hg hfit
  unfold Oper.wp
  simp [execOp, hop, resolve, invoke, builtin, hd, hx, hrun, Result.andThen]
  have h' := hK _ _ h
  simp only [List.append_assoc] at h'
  exact h'
end Go.Proofs.YtfkofbabeghgkaaGreat.Z
end

section
namespace Go.Proofs.YtfkofbabeghgkaaGreat.Z
open Go.Proofs.YtfkofbabeghgkaaGreat.PM
theorem rd_size_u8 : (Tryz.prog.info? 5).map (·.size) = some 1 := by kernel_rfl
theorem pre_cs (l : List UInt8) : Lib.hasPrefix l [67, 83] = decide (l.take 2 = [67, 83]) := by
  rw [Bool.eq_iff_iff, decide_eq_true_eq]
  unfold Lib.hasPrefix
  rw [List.isPrefixOf_iff_prefix, List.prefix_iff_eq_take]
  exact ⟨fun h => h.symm, fun h => h.symm⟩
theorem trim_cs {l : List UInt8} (h : l.take 2 = [67, 83]) : (⟨(Lib.trimPrefix l [67, 83]).toArray⟩ : ByteArray) = ba (l.drop 2) := by
  unfold Lib.trimPrefix
  rw [if_pos (by rw [pre_cs, decide_eq_true h])]
  rfl
theorem ext_mid (a : ByteArray) (i j : Nat) : a.extract i j = ba ((a.data.toList.take j).drop i) := by
  rw [Lib.extract_eq, List.drop_take]
  rfl
theorem tkCs_copy (l : ByteArray) (b : Bool) (v : Value) (q : List UInt8) (hq : 32 ≤ q.length) :
    ((tkCs l b (List.replicate 32 0) v).toList.take 2 ++ Lib.byteCells (q.take 32) ++ (tkCs l b (List.replicate 32 0) v).toList.drop (2 + 32)).toArray = tkCs l b (ints (q.take 32)) v := by
  unfold tkCs Lib.byteCells ints
  rw [List.map_map]
  rfl
theorem Fr.of_belowG {g : Nat} {w w' : World} (h : Below w.heap.size w w') : Fr g w w' := ⟨⟨h.size, fun i hi hn hr => h.block i hi⟩, fun B a b => mk_bel h b⟩
theorem u64_pred {n : Int} (h : n > 0) : (IntKind.u64.wrap (n - 1)) < n := by
  have e : IntKind.u64.wrap (n - 1) = (n - 1) % 18446744073709551616 := by rw [IntKind.wrap_u64]
  rw [e]
  omega
def ReadR (w w' : World) (e : Ending) : Option (List Int × List Ch) → Prop
  | none => e = .returned (.tuple #[.pointer none, .int .i64 16])
  | some r => ∃ g left bad v, e = .returned (.tuple #[.pointer (some ⟨g, 0, none⟩), .int .i64 0]) ∧ TkR w' g (g + 1) r.1 ⟨left, bad, r.2⟩ v ∧ w.heap.size ≤ g
set_option maxRecDepth 100000 in
set_option maxHeartbeats 12800000 in
theorem read_calls (k : Nat) (s : ByteArray) (hs : s.size ≤ 4611686018427387904) (o : Option (List Int × List Ch)) (w : World) (h : readF k s = some o) :
    Calls Tryz.prog 36 #[.string s] w fun e w' => ReadR w w' e o ∧ Below w.heap.size w w' := by
  have hz : s.size = s.data.toList.length := by rw [Array.length_toList]; rfl
  unfold readF at h
  by_cases hp : s.data.toList.take 2 = [67, 83]
  rotate_left
  · rw [if_neg (fun h_ => hp h_.1)] at h
    obtain rfl := Option.some.inj h
    have HP := ak_ (show Lib.hasPrefix s.data.toList (ByteArray.mk #[67, 83]).data.toList = false from (pre_cs _).trans (decide_eq_false hp))
    clear h hp hz hs
    go_enter Tryz.func36, Tryz.ntmps36
    go_wp2_with (first
      | ((with_reducible refine gate_dst (N := 14) rfl ?_); refine box_event ?hg (N := 14) ?hd (cs := tkCs ⟨#[]⟩ false (List.replicate 32 0) (.slice none 0 0)) (t := 72) ?hr ?_; (case hd => rfl); (case hg => rfl); (case hr => first | (go_simp; done) | (go_simp; rfl)); intro g hg w1 hx hb; have X1 := ak_ hx; have B1 := ak_ hb; have GG := ak_ (show w.heap.size ≤ g by omega); clear hx hb hg)
      | (go_at_call 59; refine (Tryz.strings_CutPrefix s ⟨#[67, 83]⟩ _).mono ?_; rintro e w2 ⟨rfl, rfl⟩; rw [HP.out]; generalize (⟨(Lib.trimPrefix s.data.toList (ByteArray.mk #[67, 83]).data.toList).toArray⟩ : ByteArray) = b))
    (try (refine wp_scope_post ?_; go_wp2_with (first
      | ((with_reducible refine gate_dst (N := 14) rfl ?_); refine box_event ?hgB (N := 14) ?hdB (cs := tkCs ⟨#[]⟩ false (List.replicate 32 0) (.slice none 0 0)) (t := 72) ?hrB ?_; (case hdB => rfl); (case hgB => rfl); (case hrB => first | (go_simp; done) | (go_simp; rfl)); intro g hg w1 hx hb; have X1 := ak_ hx; have B1 := ak_ hb; have GG := ak_ (show w.heap.size ≤ g by omega); clear hx hb hg)
      | (go_at_call 59; refine (Tryz.strings_CutPrefix s ⟨#[67, 83]⟩ _).mono ?_; rintro e w2 ⟨rfl, rfl⟩; rw [HP.out]; generalize (⟨(Lib.trimPrefix s.data.toList (ByteArray.mk #[67, 83]).data.toList).toArray⟩ : ByteArray) = b))))
    (try (go_step3; go_wp2_with (first
      | ((with_reducible refine gate_dst (N := 14) rfl ?_); refine box_event ?hgC (N := 14) ?hdC (cs := tkCs ⟨#[]⟩ false (List.replicate 32 0) (.slice none 0 0)) (t := 72) ?hrC ?_; (case hdC => rfl); (case hgC => rfl); (case hrC => first | (go_simp; done) | (go_simp; rfl)); intro g hg w1 hx hb; have X1 := ak_ hx; have B1 := ak_ hb; have GG := ak_ (show w.heap.size ≤ g by omega); clear hx hb hg)
      | (go_at_call 59; refine (Tryz.strings_CutPrefix s ⟨#[67, 83]⟩ _).mono ?_; rintro e w2 ⟨rfl, rfl⟩; rw [HP.out]; generalize (⟨(Lib.trimPrefix s.data.toList (ByteArray.mk #[67, 83]).data.toList).toArray⟩ : ByteArray) = b))))
    go_ret2
    exact ⟨rfl, B1.out⟩
  have HP := ak_ (show Lib.hasPrefix s.data.toList (ByteArray.mk #[67, 83]).data.toList = true from (pre_cs _).trans (decide_eq_true hp))
  obtain ⟨b, hb⟩ : ∃ b, b = ba (s.data.toList.drop 2) := ⟨_, rfl⟩
  have HBE := ak_ (show (⟨(Lib.trimPrefix s.data.toList (ByteArray.mk #[67, 83]).data.toList).toArray⟩ : ByteArray) = b from (trim_cs hp).trans hb.symm)
  have hbz : b.size = s.size - 2 := by rw [hb, ba_size, List.length_drop]; omega
  by_cases h42 : 42 ≤ s.size
  rotate_left
  · rw [if_neg (fun h_ => h42 h_.2)] at h
    obtain rfl := Option.some.inj h
    have c1 : decide ((b.size : Int) < 40) = true := decide_eq_true (by omega)
    have c2 : decide (b.size < 40) = true := decide_eq_true (by omega)
    clear h hp hz hs h42 hb hbz
    go_enter Tryz.func36, Tryz.ntmps36
    go_wp2_with (first
      | ((with_reducible refine gate_dst (N := 14) rfl ?_); refine box_event ?hg (N := 14) ?hd (cs := tkCs ⟨#[]⟩ false (List.replicate 32 0) (.slice none 0 0)) (t := 72) ?hr ?_; (case hd => rfl); (case hg => rfl); (case hr => first | (go_simp; done) | (go_simp; rfl)); intro g hg w1 hx hb; have X1 := ak_ hx; have B1 := ak_ hb; have GG := ak_ (show w.heap.size ≤ g by omega); clear hx hb hg)
      | (go_at_call 59; refine (Tryz.strings_CutPrefix s ⟨#[67, 83]⟩ _).mono ?_; rintro e w2 ⟨rfl, rfl⟩; rw [HP.out, HBE.out]))
    (try (refine wp_scope_post ?_; go_wp2_with (first
      | ((with_reducible refine gate_dst (N := 14) rfl ?_); refine box_event ?hgB (N := 14) ?hdB (cs := tkCs ⟨#[]⟩ false (List.replicate 32 0) (.slice none 0 0)) (t := 72) ?hrB ?_; (case hdB => rfl); (case hgB => rfl); (case hrB => first | (go_simp; done) | (go_simp; rfl)); intro g hg w1 hx hb; have X1 := ak_ hx; have B1 := ak_ hb; have GG := ak_ (show w.heap.size ≤ g by omega); clear hx hb hg)
      | (go_at_call 59; refine (Tryz.strings_CutPrefix s ⟨#[67, 83]⟩ _).mono ?_; rintro e w2 ⟨rfl, rfl⟩; rw [HP.out, HBE.out]))))
    (try (go_step3; go_wp2_with (first
      | ((with_reducible refine gate_dst (N := 14) rfl ?_); refine box_event ?hgC (N := 14) ?hdC (cs := tkCs ⟨#[]⟩ false (List.replicate 32 0) (.slice none 0 0)) (t := 72) ?hrC ?_; (case hdC => rfl); (case hgC => rfl); (case hrC => first | (go_simp; done) | (go_simp; rfl)); intro g hg w1 hx hb; have X1 := ak_ hx; have B1 := ak_ hb; have GG := ak_ (show w.heap.size ≤ g by omega); clear hx hb hg)
      | (go_at_call 59; refine (Tryz.strings_CutPrefix s ⟨#[67, 83]⟩ _).mono ?_; rintro e w2 ⟨rfl, rfl⟩; rw [HP.out, HBE.out]))))
    go_ret2
    exact ⟨rfl, B1.out⟩
  rw [if_pos ⟨hp, h42⟩] at h
  have c1 : decide ((b.size : Int) < 40) = false := decide_eq_false (by omega)
  have c2 : decide (b.size < 40) = false := decide_eq_false (by omega)
  obtain ⟨kk, hkk⟩ : ∃ kk : Nat, kk = s.size - 4 := ⟨_, rfl⟩
  obtain ⟨kb, hkb⟩ : ∃ kb : Nat, kb = b.size - 4 := ⟨_, rfl⟩
  have ek : wrap64 ((s.size : Int) - 4) = (kk : Int) := by unfold wrap64; omega
  have ekb : wrap64 ((b.size : Int) - 4) = (kb : Int) := by unfold wrap64; omega
  have p0 : ((kk : Int) ≤ (s.size : Int)) = True := eq_true (by omega)
  have p1 : (kk ≤ s.size) = True := eq_true (by omega)
  have p2 : ((32 : Int) ≤ (kb : Int)) = True := eq_true (by omega)
  have p3 : (32 ≤ kb) = True := eq_true (by omega)
  have p4 : ((kb : Int) ≤ (b.size : Int)) = True := eq_true (by omega)
  have p5 : (kb ≤ b.size) = True := eq_true (by omega)
  have p6 : ((0 : Int) ≤ (kk : Int)) = True := eq_true (by omega)
  obtain ⟨s4, hs4⟩ : ∃ s4, s4 = ba (s.data.toList.drop (s.data.toList.length - 4)) := ⟨_, rfl⟩
  obtain ⟨s0, hs0⟩ : ∃ s0, s0 = ba (s.data.toList.take (s.data.toList.length - 4)) := ⟨_, rfl⟩
  obtain ⟨lf, hlf⟩ : ∃ lf, lf = ba ((((s.data.toList.drop 2).take ((s.data.toList.drop 2).length - 4)).drop 32)) := ⟨_, rfl⟩
  rw [← hs4, ← hs0, ← hlf] at h
  have x1 : s.extract kk s.size = s4 := by rw [ext_end, hs4, hkk, hz]
  have x2 : s.extract 0 kk = s0 := by rw [ext_front, hs0, hkk, hz]
  have x3 : b.extract 32 kb = lf := by rw [ext_mid, hlf, hkb, hb, ba_data, ba_size]
  have HS0 := ak_ (show (s0.size : Int) ≤ 9223372036854775807 by rw [hs0, ba_size, List.length_take]; omega)
  have hsum : 0 ≤ sumC s0 s0.size 0 0 ∧ sumC s0 s0.size 0 0 < 4294967296 := by
    rw [hs0, sum_nat]
    have := crc_lt (ba (s.data.toList.take (s.data.toList.length - 4))).data.toList 0 (by decide)
    omega
  obtain ⟨sm, hsm⟩ : ∃ sm, sm = sumC s0 s0.size 0 0 := ⟨_, rfl⟩
  rw [← hsm] at h hsum
  have ew : IntKind.u64.wrap sm = sm := IntWalk.u64_in _ ⟨by omega, by omega⟩
  have HSM := ak_ hsm
  obtain ⟨⟨q1, q2, q3⟩, hq, h⟩ := Option.bind_eq_some_iff.mp h
  dsimp only at h
  have HQ := ak_ hq
  have HMIN := ak_ (show min b.size 32 = 32 by omega)
  have HBL := ak_ (show 32 ≤ b.data.toList.length by rw [Array.length_toList]; show 32 ≤ b.size; omega)
  obtain ⟨bs, hbs⟩ : ∃ bs, bs = ints ((s.data.toList.drop 2).take 32) := ⟨_, rfl⟩
  rw [← hbs] at h
  have HBS := ak_ (show ints (b.data.toList.take 32) = bs by rw [hbs, hb, ba_data])
  have HBSL := ak_ (show bs.length = 32 by rw [hbs]; unfold ints; rw [List.length_map, List.length_take, List.length_drop]; omega)
  clear hs4 hs0 hlf hsm hsum hq hkk hkb hb hbz hp h42 hbs hz hs
  by_cases hsq : sm = q1
  rotate_left
  · rw [if_neg hsq] at h
    obtain rfl := Option.some.inj h
    have e1 : (sm != q1) = true := bne_iff_ne.2 hsq
    clear h hsq
    go_enter Tryz.func36, Tryz.ntmps36
    go_wp2_with (first
      | ((with_reducible refine gate_dst (N := 14) rfl ?_); refine box_event ?hg (N := 14) ?hd (cs := tkCs ⟨#[]⟩ false (List.replicate 32 0) (.slice none 0 0)) (t := 72) ?hr ?_; (case hd => rfl); (case hg => rfl); (case hr => first | (go_simp; done) | (go_simp; rfl)); intro g hg w1 hx hb; have X1 := ak_ hx; have B1 := ak_ hb; have GG := ak_ (show w.heap.size ≤ g by omega); clear hx hb hg)
      | (go_at_call 59; refine (Tryz.strings_CutPrefix s ⟨#[67, 83]⟩ _).mono ?_; rintro e w2 ⟨rfl, rfl⟩; rw [HP.out, HBE.out])
      | (go_at_call 60; refine (pack_TakeNumber.calls k s4 4 q1 q2 q3 _ HQ.out).mono ?_; rintro e w3 ⟨rfl, hd⟩; have X3 := ak_ (blk_below X1.out hd.below); have B3 := ak_ (below_step B1.out hd.below); clear hd)
      | (go_at_call 29; refine (sum_calls s0 HS0.out _).mono ?_; rintro e w4 ⟨rfl, hb4⟩; rw [← HSM.out]; have X4 := ak_ (blk_below X3.out hb4); have B4 := ak_ (below_step B3.out hb4); clear hb4))
    (try (refine wp_scope_post ?_; go_wp2_with (first
      | ((with_reducible refine gate_dst (N := 14) rfl ?_); refine box_event ?hgB (N := 14) ?hdB (cs := tkCs ⟨#[]⟩ false (List.replicate 32 0) (.slice none 0 0)) (t := 72) ?hrB ?_; (case hdB => rfl); (case hgB => rfl); (case hrB => first | (go_simp; done) | (go_simp; rfl)); intro g hg w1 hx hb; have X1 := ak_ hx; have B1 := ak_ hb; have GG := ak_ (show w.heap.size ≤ g by omega); clear hx hb hg)
      | (go_at_call 59; refine (Tryz.strings_CutPrefix s ⟨#[67, 83]⟩ _).mono ?_; rintro e w2 ⟨rfl, rfl⟩; rw [HP.out, HBE.out])
      | (go_at_call 60; refine (pack_TakeNumber.calls k s4 4 q1 q2 q3 _ HQ.out).mono ?_; rintro e w3 ⟨rfl, hd⟩; have X3 := ak_ (blk_below X1.out hd.below); have B3 := ak_ (below_step B1.out hd.below); clear hd)
      | (go_at_call 29; refine (sum_calls s0 HS0.out _).mono ?_; rintro e w4 ⟨rfl, hb4⟩; rw [← HSM.out]; have X4 := ak_ (blk_below X3.out hb4); have B4 := ak_ (below_step B3.out hb4); clear hb4))))
    (try (go_step3; go_wp2_with (first
      | ((with_reducible refine gate_dst (N := 14) rfl ?_); refine box_event ?hgC (N := 14) ?hdC (cs := tkCs ⟨#[]⟩ false (List.replicate 32 0) (.slice none 0 0)) (t := 72) ?hrC ?_; (case hdC => rfl); (case hgC => rfl); (case hrC => first | (go_simp; done) | (go_simp; rfl)); intro g hg w1 hx hb; have X1 := ak_ hx; have B1 := ak_ hb; have GG := ak_ (show w.heap.size ≤ g by omega); clear hx hb hg)
      | (go_at_call 59; refine (Tryz.strings_CutPrefix s ⟨#[67, 83]⟩ _).mono ?_; rintro e w2 ⟨rfl, rfl⟩; rw [HP.out, HBE.out])
      | (go_at_call 60; refine (pack_TakeNumber.calls k s4 4 q1 q2 q3 _ HQ.out).mono ?_; rintro e w3 ⟨rfl, hd⟩; have X3 := ak_ (blk_below X1.out hd.below); have B3 := ak_ (below_step B1.out hd.below); clear hd)
      | (go_at_call 29; refine (sum_calls s0 HS0.out _).mono ?_; rintro e w4 ⟨rfl, hb4⟩; rw [← HSM.out]; have X4 := ak_ (blk_below X3.out hb4); have B4 := ak_ (below_step B3.out hb4); clear hb4))))
    go_ret2
    exact ⟨rfl, B4.out⟩
  rw [if_pos hsq] at h
  obtain ⟨⟨n1, t1⟩, hn, h⟩ := Option.bind_eq_some_iff.mp h
  obtain ⟨tf, hl, h⟩ := Option.bind_eq_some_iff.mp h
  dsimp only at hl
  have e1 : (sm != q1) = false := bne_eq_false_iff_eq.2 hsq
  have HN := ak_ hn
  have HL := ak_ hl
  have HO := ak_ h
  clear h hn hl hsq
  go_enter Tryz.func36, Tryz.ntmps36
  go_wp2_with (first
    | ((with_reducible refine gate_dst (N := 14) rfl ?_); refine box_event ?hg (N := 14) ?hd (cs := tkCs ⟨#[]⟩ false (List.replicate 32 0) (.slice none 0 0)) (t := 72) ?hr ?_; (case hd => rfl); (case hg => rfl); (case hr => first | (go_simp; done) | (go_simp; rfl)); intro g hg w1 hx hb; have X1 := ak_ hx; have B1 := ak_ hb; have GG := ak_ (show w.heap.size ≤ g by omega); clear hx hb hg)
    | (go_at_call 59; refine (Tryz.strings_CutPrefix s ⟨#[67, 83]⟩ _).mono ?_; rintro e w2 ⟨rfl, rfl⟩; rw [HP.out, HBE.out])
    | (go_at_call 60; refine (pack_TakeNumber.calls k s4 4 q1 q2 q3 _ HQ.out).mono ?_; rintro e w3 ⟨rfl, hd⟩; have X3 := ak_ (blk_below X1.out hd.below); have B3 := ak_ (below_step B1.out hd.below); clear hd)
    | (go_at_call 29; refine (sum_calls s0 HS0.out _).mono ?_; rintro e w4 ⟨rfl, hb4⟩; rw [← HSM.out]; have X4 := ak_ (blk_below X3.out hb4); have B4 := ak_ (below_step B3.out hb4); clear hb4)
    | (refine copy_eventC rfl (.tmp 48) (.tmp 49) 35 9 5 rfl Tryz.underlying35 rd_size_u8 g 2 32 32 rfl b rfl _ 72 X4.out (by decide) ?_; rw [HMIN.out, tkCs_copy _ _ _ _ HBL.out, HBS.out, show goInt ((32 : Nat) : Int) = Value.int .i64 32 from rfl]; have X5 := ak_ (setRow_heap _ g _ (tkCs ⟨#[]⟩ false bs (.slice none 0 0)) 72 (0, 0) X4.out); have B5 := ak_ (below_setRow B4.out GG.out (tkCs ⟨#[]⟩ false bs (.slice none 0 0))); generalize w4.setRow g (tkCs ⟨#[]⟩ false bs (.slice none 0 0)) = w5 at X5 B5 ⊢; have z0 : w5.cell? ⟨g, 0, none⟩ = some (.string ⟨#[]⟩) := (blk_cell X5.out 0).trans rfl; have g0 : w5.frozen? ⟨g, 0, none⟩ = false := blk_frozen X5.out 0)
    | (go_at_call 61; refine (tk_num k g (g + 1) bs ⟨lf, false, []⟩ t1 4 n1 (.slice none 0 0) _ (show TkR (w5.setCell ⟨g, 0, none⟩ (.string lf)) g (g + 1) bs ⟨lf, false, []⟩ (.slice none 0 0) from TkR.set0 (l := ⟨#[]⟩) ⟨X5.out, Kd.R_nil _ _ _ _ _, HBSL.out, Nat.lt_succ_self g⟩ lf) HN.out).mono ?_; rintro e w6 ⟨rfl, ht, hf⟩; have T6 := ak_ ht; have F6 := ak_ (show Fr g w w6 from ((Fr.of_belowG B5.out).setg 0 (.string lf)).trans hf); clear ht hf))
  (try (refine wp_scope_post ?_; go_wp2_with (first
    | ((with_reducible refine gate_dst (N := 14) rfl ?_); refine box_event ?hgB (N := 14) ?hdB (cs := tkCs ⟨#[]⟩ false (List.replicate 32 0) (.slice none 0 0)) (t := 72) ?hrB ?_; (case hdB => rfl); (case hgB => rfl); (case hrB => first | (go_simp; done) | (go_simp; rfl)); intro g hg w1 hx hb; have X1 := ak_ hx; have B1 := ak_ hb; have GG := ak_ (show w.heap.size ≤ g by omega); clear hx hb hg)
    | (go_at_call 59; refine (Tryz.strings_CutPrefix s ⟨#[67, 83]⟩ _).mono ?_; rintro e w2 ⟨rfl, rfl⟩; rw [HP.out, HBE.out])
    | (go_at_call 60; refine (pack_TakeNumber.calls k s4 4 q1 q2 q3 _ HQ.out).mono ?_; rintro e w3 ⟨rfl, hd⟩; have X3 := ak_ (blk_below X1.out hd.below); have B3 := ak_ (below_step B1.out hd.below); clear hd)
    | (go_at_call 29; refine (sum_calls s0 HS0.out _).mono ?_; rintro e w4 ⟨rfl, hb4⟩; rw [← HSM.out]; have X4 := ak_ (blk_below X3.out hb4); have B4 := ak_ (below_step B3.out hb4); clear hb4)
    | (refine copy_eventC rfl (.tmp 48) (.tmp 49) 35 9 5 rfl Tryz.underlying35 rd_size_u8 g 2 32 32 rfl b rfl _ 72 X4.out (by decide) ?_; rw [HMIN.out, tkCs_copy _ _ _ _ HBL.out, HBS.out, show goInt ((32 : Nat) : Int) = Value.int .i64 32 from rfl]; have X5 := ak_ (setRow_heap _ g _ (tkCs ⟨#[]⟩ false bs (.slice none 0 0)) 72 (0, 0) X4.out); have B5 := ak_ (below_setRow B4.out GG.out (tkCs ⟨#[]⟩ false bs (.slice none 0 0))); generalize w4.setRow g (tkCs ⟨#[]⟩ false bs (.slice none 0 0)) = w5 at X5 B5 ⊢; have z0 : w5.cell? ⟨g, 0, none⟩ = some (.string ⟨#[]⟩) := (blk_cell X5.out 0).trans rfl; have g0 : w5.frozen? ⟨g, 0, none⟩ = false := blk_frozen X5.out 0)
    | (go_at_call 61; refine (tk_num k g (g + 1) bs ⟨lf, false, []⟩ t1 4 n1 (.slice none 0 0) _ (show TkR (w5.setCell ⟨g, 0, none⟩ (.string lf)) g (g + 1) bs ⟨lf, false, []⟩ (.slice none 0 0) from TkR.set0 (l := ⟨#[]⟩) ⟨X5.out, Kd.R_nil _ _ _ _ _, HBSL.out, Nat.lt_succ_self g⟩ lf) HN.out).mono ?_; rintro e w6 ⟨rfl, ht, hf⟩; have T6 := ak_ ht; have F6 := ak_ (show Fr g w w6 from ((Fr.of_belowG B5.out).setg 0 (.string lf)).trans hf); clear ht hf))))
  (try (go_step3; go_wp2_with (first
    | ((with_reducible refine gate_dst (N := 14) rfl ?_); refine box_event ?hgC (N := 14) ?hdC (cs := tkCs ⟨#[]⟩ false (List.replicate 32 0) (.slice none 0 0)) (t := 72) ?hrC ?_; (case hdC => rfl); (case hgC => rfl); (case hrC => first | (go_simp; done) | (go_simp; rfl)); intro g hg w1 hx hb; have X1 := ak_ hx; have B1 := ak_ hb; have GG := ak_ (show w.heap.size ≤ g by omega); clear hx hb hg)
    | (go_at_call 59; refine (Tryz.strings_CutPrefix s ⟨#[67, 83]⟩ _).mono ?_; rintro e w2 ⟨rfl, rfl⟩; rw [HP.out, HBE.out])
    | (go_at_call 60; refine (pack_TakeNumber.calls k s4 4 q1 q2 q3 _ HQ.out).mono ?_; rintro e w3 ⟨rfl, hd⟩; have X3 := ak_ (blk_below X1.out hd.below); have B3 := ak_ (below_step B1.out hd.below); clear hd)
    | (go_at_call 29; refine (sum_calls s0 HS0.out _).mono ?_; rintro e w4 ⟨rfl, hb4⟩; rw [← HSM.out]; have X4 := ak_ (blk_below X3.out hb4); have B4 := ak_ (below_step B3.out hb4); clear hb4)
    | (refine copy_eventC rfl (.tmp 48) (.tmp 49) 35 9 5 rfl Tryz.underlying35 rd_size_u8 g 2 32 32 rfl b rfl _ 72 X4.out (by decide) ?_; rw [HMIN.out, tkCs_copy _ _ _ _ HBL.out, HBS.out, show goInt ((32 : Nat) : Int) = Value.int .i64 32 from rfl]; have X5 := ak_ (setRow_heap _ g _ (tkCs ⟨#[]⟩ false bs (.slice none 0 0)) 72 (0, 0) X4.out); have B5 := ak_ (below_setRow B4.out GG.out (tkCs ⟨#[]⟩ false bs (.slice none 0 0))); generalize w4.setRow g (tkCs ⟨#[]⟩ false bs (.slice none 0 0)) = w5 at X5 B5 ⊢; have z0 : w5.cell? ⟨g, 0, none⟩ = some (.string ⟨#[]⟩) := (blk_cell X5.out 0).trans rfl; have g0 : w5.frozen? ⟨g, 0, none⟩ = false := blk_frozen X5.out 0)
    | (go_at_call 61; refine (tk_num k g (g + 1) bs ⟨lf, false, []⟩ t1 4 n1 (.slice none 0 0) _ (show TkR (w5.setCell ⟨g, 0, none⟩ (.string lf)) g (g + 1) bs ⟨lf, false, []⟩ (.slice none 0 0) from TkR.set0 (l := ⟨#[]⟩) ⟨X5.out, Kd.R_nil _ _ _ _ _, HBSL.out, Nat.lt_succ_self g⟩ lf) HN.out).mono ?_; rintro e w6 ⟨rfl, ht, hf⟩; have T6 := ak_ ht; have F6 := ak_ (show Fr g w w6 from ((Fr.of_belowG B5.out).setg 0 (.string lf)).trans hf); clear ht hf))))
  go_loopw [12] (fun vm wr => ∃ (n : Int) (m : Nat) (t : TkS) (v : Value), vm = .int .u64 n ∧ Aside0 (TkR wr g (g + 1) bs t v) ∧ Aside0 (Fr g w wr) ∧ Aside0 (tkL k m n t = some tf)) (fun vm _ => (intOf vm).toNat)
  case atStart => exact ⟨n1, _, t1, _, rfl, T6, F6, HL⟩
  case round =>
    obtain ⟨n, m, t, v, rfl, HT, HF, HR⟩ := hrel
    cases m with
    | zero => exact absurd HR.out (by simp [tkL])
    | succ m =>
    have hR := HR.out
    rw [tkL] at hR
    by_cases hn : n > 0
    · rw [if_pos hn] at hR
      obtain ⟨u, hu, hR⟩ := Option.bind_eq_some_iff.mp hR
      have HU := ak_ hu
      have d1 : decide (n > 0) = true := decide_eq_true hn
      have d2 : decide (0 < n) = true := decide_eq_true hn
      obtain ⟨l, bd, cs⟩ := u
      dsimp only at hR
      cases bd with
      | true =>
        rw [if_pos rfl] at hR
        have HTF := ak_ (Option.some.inj hR)
        have HO2 := ak_ (show (none : Option (List Int × List Ch)) = o from by have h := HO.out; rw [← HTF.out, if_pos rfl] at h; exact Option.some.inj h)
        clear hR hu hn HR HL HO HTF
        go_wp2_with (go_at_call 62; refine (tk_change k g (g + 1) bs t ⟨l, true, cs⟩ v w _ HT.out HF.out (Nat.le_succ_of_le GG.out) (blk_lt HT.out.1) HU.out).mono ?_; rintro e w7 ⟨rfl, ⟨v7, ht⟩, hf⟩; have T7 := ak_ ht; have F7 := ak_ hf; have z1 : w7.cell? ⟨g, 1, none⟩ = some (.bool true) := (blk_cell ht.1 1).trans rfl; clear ht hf)
        go_ret2
        rw [← HO2.out]
        exact ⟨rfl, F7.out.2 _ GG.out (Nat.le_refl _)⟩
      | false =>
        rw [if_neg (by decide)] at hR
        have HR2 := ak_ hR
        have HN0 := ak_ hn
        clear hR hu hn HR
        go_wp2_with (go_at_call 62; refine (tk_change k g (g + 1) bs t ⟨l, false, cs⟩ v w _ HT.out HF.out (Nat.le_succ_of_le GG.out) (blk_lt HT.out.1) HU.out).mono ?_; rintro e w7 ⟨rfl, ⟨v7, ht⟩, hf⟩; have T7 := ak_ ht; have F7 := ak_ hf; have z1 : w7.cell? ⟨g, 1, none⟩ = some (.bool false) := (blk_cell ht.1 1).trans rfl; clear ht hf)
        have hn := HN0.out
        go_roundw
        case rel => exact ⟨_, m, _, v7, rfl, T7, F7, HR2⟩
        case measure =>
          show (IntKind.u64.wrap (n - 1)).toNat < n.toNat
          have := u64_pred hn
          omega
    · rw [if_neg hn] at hR
      have HTF := ak_ (Option.some.inj hR)
      have d1 : decide (n > 0) = false := decide_eq_false hn
      have d2 : decide (0 < n) = false := decide_eq_false hn
      have h := HO.out
      rw [← HTF.out] at h
      obtain ⟨l, bd, cs⟩ := t
      dsimp only at h
      have z1 : wr.cell? ⟨g, 1, none⟩ = some (.bool bd) := (blk_cell HT.out.1 1).trans rfl
      have z0 : wr.cell? ⟨g, 0, none⟩ = some (.string l) := (blk_cell HT.out.1 0).trans rfl
      clear hR hn HR HL HO HTF
      cases bd with
      | true =>
        rw [if_pos rfl] at h
        obtain rfl := Option.some.inj h
        clear h z0
        go_wp2
        go_ret2
        exact ⟨rfl, HF.out.2 _ GG.out (Nat.le_refl _)⟩
      | false =>
        rw [if_neg (by decide)] at h
        by_cases hl : l.toList = []
        rotate_left
        · rw [if_neg hl] at h
          obtain rfl := Option.some.inj h
          have y1 : (l.toList != []) = true := bne_iff_ne.2 hl
          have y2 : (l.toList == []) = false := beq_eq_false_iff_ne.2 hl
          have y3 : l.toList.isEmpty = false := by cases hq_ : l.toList with | nil => exact absurd hq_ hl | cons a r => rfl
          clear h hl
          go_wp2
          go_ret2
          exact ⟨rfl, HF.out.2 _ GG.out (Nat.le_refl _)⟩
        · rw [if_pos hl] at h
          obtain rfl : l = ⟨#[]⟩ := by rw [← data_ba l, ← ByteArray.toList_eq, hl]; rfl
          clear hl
          obtain ⟨c, hc, h⟩ := Option.bind_eq_some_iff.mp h
          have HC := ak_ hc
          obtain ⟨A0, c0, hv⟩ := Kd.R_slice HT.out.2.1
          subst hv
          have z3 : wr.cell? ⟨g, 34, none⟩ = some (.slice A0 cs.length c0) := (blk_cell HT.out.1 34).trans (tkCs34 HT.out.2.2.1)
          have HRD := ak_ (Kd.R_reads' HT.out.2.1)
          by_cases h0 : c = 0
          · rw [if_pos h0] at h
            obtain rfl := Option.some.inj h
            subst h0
            clear h hc
            go_wp2_with (go_at_call 63; refine (item_CheckChanges.calls k A0 c0 cs 0 _ HRD.out.2.2 HRD.out.2.1 HC.out).mono ?_; rintro e w8 ⟨rfl, hb⟩; have B8 := ak_ hb; clear hb)
            go_ret2
            exact ⟨⟨g, _, _, _, rfl, HT.out.below B8.out, GG.out⟩, (HF.out.2 _ GG.out (Nat.le_refl _)).trans (mk_bel B8.out HF.out.size)⟩
          · rw [if_neg h0] at h
            obtain rfl := Option.some.inj h
            have e2 : (c != 0) = true := bne_iff_ne.2 h0
            clear h hc h0
            go_wp2_with (go_at_call 63; refine (item_CheckChanges.calls k A0 c0 cs c _ HRD.out.2.2 HRD.out.2.1 HC.out).mono ?_; rintro e w8 ⟨rfl, hb⟩; have B8 := ak_ hb; clear hb)
            go_ret2
            exact ⟨rfl, (HF.out.2 _ GG.out (Nat.le_refl _)).trans (mk_bel B8.out HF.out.size)⟩
end Go.Proofs.YtfkofbabeghgkaaGreat.Z
end

section
namespace Go.Proofs.YtfkofbabeghgkaaGreat.Z
open Go.Proofs.YtfkofbabeghgkaaGreat.PM
theorem eq_u8 (d : Nat) (a b : Int) (w : World) : (Op.equalIn (d + 1) 5 (.int .u8 a) (.int .u8 b)).run Tryz.prog w = .ok (a == b) w := by
  simp [Op.equalIn, run_underlying Tryz.underlying5]
theorem arrV_at {x : List Int} {s : Nat} (h : s < x.length) : (arrV x)[s]? = some (.int .u8 x[s]) := by
  unfold arrV
  rw [List.getElem?_toArray, List.getElem?_map, List.getElem?_eq_getElem h]
  rfl
theorem items_u8 (x y : List Int) (d : Nat) (w : World) : ∀ (n s : Nat), s + n = x.length → s + n = y.length → (Op.eqItems (d + 1) 5 1 (arrV x) (arrV y) (List.range' s n)).run Tryz.prog w = .ok (x.drop s == y.drop s) w
  | 0, s, hx, hy => by
    rw [List.drop_eq_nil_of_le (by omega), List.drop_eq_nil_of_le (by omega)]
    simp [Op.eqItems]
  | n + 1, s, hx, hy => by
    have h1 : s < x.length := by omega
    have h2 : s < y.length := by omega
    have p1 : (part 5 (arrV x) (s * 1)).run Tryz.prog w = .ok (.int .u8 x[s]) w := run_part_plain (P := Tryz.prog) (w := w) (by kernel_rfl) (by rw [Nat.mul_one]; exact arrV_at h1)
    have p2 : (part 5 (arrV y) (s * 1)).run Tryz.prog w = .ok (.int .u8 y[s]) w := run_part_plain (P := Tryz.prog) (w := w) (by kernel_rfl) (by rw [Nat.mul_one]; exact arrV_at h2)
    have ih := items_u8 x y d w n (s + 1) (by omega) (by omega)
    have e0 : (x.drop s == y.drop s) = (x[s] == y[s] && (x.drop (s + 1) == y.drop (s + 1))) := by
      rw [List.drop_eq_getElem_cons h1, List.drop_eq_getElem_cons h2]
      rfl
    rw [List.range'_succ, e0]
    simp only [Op.eqItems, Sem.run_bind, p1, p2, eq_u8, Result.andThen_ok]
    generalize (x[s] == y[s]) = b
    cases b with
    | true => rw [if_neg (by decide), ih, Bool.true_and]
    | false => rw [if_pos (show (!false) = true from rfl), Bool.false_and]; rfl
theorem cells_u8 : Tryz.prog.cellsOf 5 = 1 := by kernel_rfl
theorem eq_arr (x y : List Int) (hx : x.length = 32) (hy : y.length = 32) (d : Nat) (w : World) : (Op.equalIn (d + 2) 28 (.agg (arrV x)) (.agg (arrV y))).run Tryz.prog w = .ok (x == y) w := by
  obtain ⟨i, hi, _⟩ := Option.map_eq_some_iff.1 rd_size_u8
  rw [run_equalIn_array w (d + 1) (arrV x) (arrV y) Tryz.underlying28 hi, cells_u8, List.range_eq_range', items_u8 x y d w 32 0 (by omega) (by omega)]
  rfl
theorem neq_arr (x y : List Int) (hx : x.length = 32) (hy : y.length = 32) (w : World) : (binOp .neq 28 (.agg (arrV x)) (.agg (arrV y))).run Tryz.prog w = .ok (.bool (x != y)) w := by
  have h := eq_arr x y hx hy 9998 w
  simp only [binOp]
  simp [Op.equal, Op.maxDepth, h]
  rw [bne, Bool.not_not]
theorem eql_arr (x y : List Int) (hx : x.length = 32) (hy : y.length = 32) (w : World) : (binOp .eql 28 (.agg (arrV x)) (.agg (arrV y))).run Tryz.prog w = .ok (.bool (x == y)) w := by
  have h := eq_arr x y hx hy 9998 w
  simp only [binOp]
  simp [Op.equal, Op.maxDepth, h]
theorem TkR.range {w : World} {g B : Nat} {bs : List Int} {s : TkS} {v : Value} (h : TkR w g B bs s v) : w.rangeAt g 2 (bs.map (fun x => Value.int .u8 x)) := by
  intro j u hu
  rw [blk_cell h.1]
  unfold tkCs
  rw [List.getElem?_toArray, show 2 + j = j + 1 + 1 by omega, List.getElem?_cons_succ, List.getElem?_cons_succ, List.getElem?_append_left (List.getElem?_eq_some_iff.1 hu).1]
  exact hu
theorem readR_none {w w' : World} {e : Ending} (h : ReadR w w' e none) : e = .returned (.tuple #[.pointer none, .int .i64 16]) := h
theorem readR_some {w w' : World} {e : Ending} {r : List Int × List Ch} (h : ReadR w w' e (some r)) : ∃ g left bad v, e = .returned (.tuple #[.pointer (some ⟨g, 0, none⟩), .int .i64 0]) ∧ TkR w' g (g + 1) r.1 ⟨left, bad, r.2⟩ v ∧ w.heap.size ≤ g := h
def baseF (k : Nat) (s : ByteArray) : Option (List Int × Int) := (readF k s).bind fun o => match o with
  | none => some (List.replicate 32 0, 16)
  | some r => some (r.1, 0)
theorem baseF.mono (s : ByteArray) : ∀ k, LeO (baseF k s) (baseF (k + 1) s) := fun k => LeO.bind (readF.mono _ _) (fun _ => LeO.refl _)
set_option maxRecDepth 100000 in
set_option maxHeartbeats 3200000 in
theorem stream_Base.calls (k : Nat) (s : ByteArray) (r1 : List Int) (r2 : Int) (w : World) (hs : s.size ≤ 4611686018427387904) (h : baseF k s = some (r1, r2)) :
    Calls Tryz.prog 14 #[.string s] w fun e w' => e = .returned (.tuple #[.agg (arrV r1), .int .i64 r2]) ∧ r1.length = 32 ∧ Below w.heap.size w w' := by
  unfold baseF at h
  obtain ⟨o, ho, h⟩ := Option.bind_eq_some_iff.mp h
  have HO := ak_ ho
  have HZ := ak_ hs
  clear ho hs
  cases o with
  | none =>
    have h4 := Option.some.inj h
    simp only [Prod.mk.injEq] at h4
    obtain ⟨rfl, rfl⟩ := h4
    clear h
    go_enter Tryz.func14, Tryz.ntmps14
    go_wp2_with (first
      | ((with_reducible refine gate_dst (N := 2) rfl ?_); refine box_event ?hg (N := 2) ?hd (cs := arrV (List.replicate 32 0)) (t := 28) ?hr ?_; (case hd => rfl); (case hg => rfl); (case hr => first | (go_simp; done) | (go_simp; rfl)); intro go hgo w1 hx hb; have O1 := ak_ hx; have B1 := ak_ hb; have GO := ak_ (show w.heap.size ≤ go by omega); clear hx hb hgo)
      | (go_at_call 36; refine (read_calls k s HZ.out none _ HO.out).mono ?_; rintro e w2 ⟨hr, hb⟩; have hr := readR_none hr; subst hr; have O2 := ak_ (blk_below O1.out hb); have B2 := ak_ (below_step B1.out hb); clear hb)
      | (refine wpList_store_row rfl 28 _ _ rfl go (arrV (List.replicate 32 0)) rfl rfl 28 _ O2.out (by rw [arrV_size]; exact info32) rfl (arrV_one _) ?_))
    (try simp only [Exit.inBlock, Exit.then])
    refine bodyPost_ret (results_ct rfl _ _ go 28 _ (0, 0) _ rfl (setRow_heap _ go _ _ 28 (0, 0) O2.out) Tryz.underlying28 rfl (by rw [arrV_size]; exact info32)) rfl ?_
    exact ⟨rfl, List.length_replicate, below_setRow B2.out GO.out _⟩
  | some r =>
    obtain ⟨q1, q2⟩ := r
    have h4 := Option.some.inj h
    simp only [Prod.mk.injEq] at h4
    obtain ⟨rfl, rfl⟩ := h4
    clear h
    go_enter Tryz.func14, Tryz.ntmps14
    go_wp2_with (first
      | ((with_reducible refine gate_dst (N := 2) rfl ?_); refine box_event ?hg (N := 2) ?hd (cs := arrV (List.replicate 32 0)) (t := 28) ?hr ?_; (case hd => rfl); (case hg => rfl); (case hr => first | (go_simp; done) | (go_simp; rfl)); intro go hgo w1 hx hb; have O1 := ak_ hx; have B1 := ak_ hb; have GO := ak_ (show w.heap.size ≤ go by omega); clear hx hb hgo)
      | (go_at_call 36; refine (read_calls k s HZ.out (some (q1, q2)) _ HO.out).mono ?_; rintro e w2 ⟨hr, hb⟩; obtain ⟨g, left, bad, v, rfl, hT, hg⟩ := readR_some hr; have O2 := ak_ (blk_below O1.out hb); have B2 := ak_ (below_step B1.out hb); have T2 := ak_ hT; have HU := ak_ (show (Tryz.prog.info? 28).map (·.size) = some (q1.map (fun x => Value.int .u8 x)).length by rw [List.length_map]; have h32 := hT.2.2.1; dsimp only at h32; rw [h32]; exact info32); clear hb hg)
      | (refine wpList_load_mid rfl 28 _ rfl g 2 rfl (q1.map (fun x => Value.int .u8 x)) _ T2.out.range Tryz.underlying28 rfl HU.out ?_; rw [show (q1.map (fun x => Value.int .u8 x)).toArray = arrV q1 from rfl]; obtain ⟨V, hV⟩ : ∃ V : Array Value, V = arrV q1 := ⟨_, rfl⟩; rw [← hV]; have HV := ak_ hV; have HVI := ak_ (show (Tryz.prog.info? 28).map (·.size) = some V.size by rw [hV, arrV_size, T2.out.2.2.1]; exact info32); have HVS := ak_ (show (arrV (List.replicate 32 0)).size = V.size by rw [hV, arrV_size, arrV_size, T2.out.2.2.1, List.length_replicate]); have HVO := ak_ (show V.all (·.oneCell') = true by rw [hV]; exact arrV_one _); clear hV)
      | (refine wpList_store_row rfl 28 _ _ rfl go V rfl rfl 28 _ O2.out HVI.out HVS.out HVO.out ?_))
    (try simp only [Exit.inBlock, Exit.then])
    refine bodyPost_ret (results_ct rfl _ _ go 28 _ (0, 0) _ rfl (setRow_heap _ go _ _ 28 (0, 0) O2.out) Tryz.underlying28 rfl HVI.out) rfl ?_
    exact ⟨by rw [← HV.out]; rfl, T2.out.2.2.1, below_setRow B2.out GO.out _⟩
end Go.Proofs.YtfkofbabeghgkaaGreat.Z
end

section
namespace Go.Proofs.YtfkofbabeghgkaaGreat.Z
open Go.Proofs.YtfkofbabeghgkaaGreat.PM
set_option maxRecDepth 100000 in
set_option maxHeartbeats 6400000 in
theorem stream_Receive.calls (k : Nat) (A0 : Option Addr) (c0 : Nat) (l0 : List VIT) (s : ByteArray) (r1 : List It) (r2 : Int) (w : World) (hr0 : Kd.C k77 w A0 l0.length l0) (hc0 : l0.length ≤ c0) (hs : s.size ≤ 4611686018427387904) (h : recvF k l0 s = some (r1, r2)) :
    Calls Tryz.prog 12 #[.slice A0 l0.length c0, .string s] w fun e w' => ∃ v0_, e = .returned (.tuple #[v0_, .int .i64 r2]) ∧ Kd.R k77 77 w' w.heap.size (fun _ => True) v0_ r1 ∧ Below w.heap.size w w' := by
  unfold recvF at h
  obtain ⟨m, hm, h⟩ := Option.bind_eq_some_iff.mp h
  have HC0 := ak_ hr0
  have HP0 := ak_ hc0
  have HZ := ak_ hs
  have HK := ak_ hm
  clear hr0 hc0 hs hm
  cases m with
  | false =>
    rw [if_neg (by decide)] at h
    have h4 := Option.some.inj h
    simp only [Prod.mk.injEq] at h4
    obtain ⟨rfl, rfl⟩ := h4
    clear h
    go_enter Tryz.func12, Tryz.ntmps12
    go_wp2_with (go_at_call 22; refine (may_calls k A0 c0 l0 false _ HC0.out HP0.out HK.out).mono ?_; rintro e w1 ⟨rfl, hb⟩; have B1 := ak_ hb; clear hb)
    go_ret2
    exact ⟨_, rfl, Kd.R_nil _ _ _ _ _, B1.out⟩
  | true =>
    rw [if_pos rfl] at h
    obtain ⟨o, ho, h⟩ := Option.bind_eq_some_iff.mp h
    have HO := ak_ ho
    clear ho
    cases o with
    | none =>
      have h4 := Option.some.inj h
      simp only [Prod.mk.injEq] at h4
      obtain ⟨rfl, rfl⟩ := h4
      clear h
      go_enter Tryz.func12, Tryz.ntmps12
      go_wp2_with (first
        | (go_at_call 22; refine (may_calls k A0 c0 l0 true _ HC0.out HP0.out HK.out).mono ?_; rintro e w1 ⟨rfl, hb⟩; have B1 := ak_ hb; clear hb)
        | (go_at_call 36; refine (read_calls k s HZ.out none _ HO.out).mono ?_; rintro e w2 ⟨hr, hb⟩; have hr := readR_none hr; subst hr; have B2 := ak_ (below_step B1.out hb); clear hb))
      go_ret2
      exact ⟨_, rfl, Kd.R_nil _ _ _ _ _, B2.out⟩
    | some r =>
      obtain ⟨p1, p2⟩ := r
      obtain ⟨⟨q1, q2⟩, hq, h⟩ := Option.bind_eq_some_iff.mp h
      dsimp only at h
      have HQ := ak_ hq
      have HRG := ak_ (mark_rng hq)
      clear hq
      by_cases he : q1 = p1
      rotate_left
      · rw [if_neg he] at h
        have h4 := Option.some.inj h
        simp only [Prod.mk.injEq] at h4
        obtain ⟨rfl, rfl⟩ := h4
        have HE := ak_ (bne_iff_ne.2 he)
        clear h he
        go_enter Tryz.func12, Tryz.ntmps12
        go_wp2_with (first
          | (go_at_call 22; refine (may_calls k A0 c0 l0 true _ HC0.out HP0.out HK.out).mono ?_; rintro e w1 ⟨rfl, hb⟩; have B1 := ak_ hb; clear hb)
          | (go_at_call 36; refine (read_calls k s HZ.out (some (p1, p2)) _ HO.out).mono ?_; rintro e w2 ⟨hr, hb⟩; obtain ⟨g, left, bad, v, rfl, hT, hg⟩ := readR_some hr; have B2 := ak_ (below_step B1.out hb); have T2 := ak_ hT; clear hb hg)
          | (go_at_call 16; refine (stream_Mark.calls k A0 c0 l0 q1 q2 _ (Kd.C_below HC0.out B2.out) HP0.out HQ.out).mono ?_; rintro e w3 ⟨rfl, hb⟩; have B3 := ak_ (below_step B2.out hb); have T3 := ak_ (T2.out.below hb); obtain ⟨vl, hvl⟩ : ∃ vl, vl = q1.map (fun x => Value.int .u8 x) := ⟨_, rfl⟩; rw [show arrV q1 = vl.toArray by rw [hvl]; rfl]; have HV := ak_ (show vl.toArray = arrV q1 by rw [hvl]; rfl); have HVS := ak_ (show vl.toArray.size = 32 by rw [HV.out, arrV_size, HRG.out.2]); have HVL := ak_ (show (Tryz.prog.info? 28).map (·.size) = some vl.length by rw [hvl, List.length_map, HRG.out.2]; exact info32); have HVO := ak_ (show vl.toArray.toList.all Value.oneCell' = true by rw [HV.out]; simpa using arrV_one q1); clear hb hvl)
          | ((with_reducible refine gate_dst (N := 8) rfl ?_); refine var_event (N := 8) (T := 28) (n := 32) (zc := arrV (List.replicate 32 0)) (cs := vl.toArray) rfl rfl rfl (.tmp 26) rfl rfl ?hr info32 (by simp [arrV_size]) HVS.out HVO.out ?hx ?hN ?_; (case hx => intro p_; rfl); (case hN => intro p_; rfl); (case hr => first | (go_simp; done) | (go_simp; rfl)); intro gv hgv w4 hx4 hb4; have X4 := ak_ hx4; have B4 := ak_ (below_step B3.out hb4); have T4 := ak_ (T3.out.below hb4); clear hx4 hb4 hgv))
        have DD := ak_ (show Below w4.heap.size w4 w4.drew from below_drew1 (Below.refl _ _))
        have HT := ak_ (show TkR w4.drew g (g + 1) p1 ⟨left, bad, p2⟩ v from T4.out.below DD.out)
        have HRV : w4.drew.rangeAt gv 0 vl := fun j u hu => by rw [Nat.zero_add, blk_cell (blk_below X4.out DD.out), List.getElem?_toArray]; exact hu
        obtain ⟨ul, hul⟩ : ∃ ul, ul = p1.map (fun x => Value.int .u8 x) := ⟨_, rfl⟩
        have HR := HT.out.range
        rw [← hul] at HR
        have HUS := ak_ (show (Tryz.prog.info? 28).map (·.size) = some ul.length by rw [hul, List.length_map]; have h32 := HT.out.2.2.1; rw [h32]; exact info32)
        have nq : ∀ W : World, (binOp .neq 28 (.agg vl.toArray) (.agg ul.toArray)).run Tryz.prog W = .ok (.bool (q1 != p1)) W := fun W => by
          rw [HV.out, show ul.toArray = arrV p1 by rw [hul]; rfl]
          exact neq_arr q1 p1 HRG.out.2 HT.out.2.2.1 W
        rw [HE.out] at nq
        clear hul
        refine start_ (n := 6) (S := (fun w' => w'.rangeAt gv 0 vl ∧ w'.rangeAt g 2 ul)) (ds := []) #[false, false, false, false, false, false] (by kernel_rfl) rfl rfl ⟨HRV, HR⟩ (fun hHeld => ?_)
        refine take_ (i := 0) (N := some 28) (v := .agg vl.toArray) (a' := ?_) #[true, false, false, false, false, false] rfl rfl (by kernel_rfl) (fun _ _ _ h => h) (yieldsIf_load_mid (by rfl) 28 (.tmp 8) rfl gv 0 rfl vl _ (fun w' h => h.1) Tryz.underlying28 rfl HVL.out) hHeld ?_ ?_
        rotate_left
        · simp only [Act.put, List.setIfInBounds_toArray, List.set_cons_zero, List.set_cons_succ, i64_w, i32_w]
          rfl
        refine pu_ 1 29 ?_
        refine pu_ 2 30 ?_
        refine pu_ 3 31 ?_
        refine take_ (i := 4) (N := some 32) (v := .agg ul.toArray) (a' := ?_) #[true, true, true, true, true, false] rfl rfl (by kernel_rfl) (fun _ _ _ h => h) (yieldsIf_load_mid (by rfl) 28 (.tmp 31) rfl g 2 rfl ul _ (fun w' h => h.2) Tryz.underlying28 rfl HUS.out) hHeld ?_ ?_
        rotate_left
        · simp only [Act.put, List.setIfInBounds_toArray, List.set_cons_zero, List.set_cons_succ, i64_w, i32_w]
          rfl
        refine pu_ 5 33 ?_
        refine done_ (by kernel_rfl) ?_
        clear hHeld HR HRV nq
        go_wp2
        go_ret2
        exact ⟨_, rfl, Kd.R_nil _ _ _ _ _, below_drew1 B4.out⟩
      · rw [if_pos he] at h
        obtain ⟨⟨a1, a2⟩, ha, h⟩ := Option.bind_eq_some_iff.mp h
        obtain ⟨c, hc, h⟩ := Option.bind_eq_some_iff.mp h
        dsimp only at hc h
        have HA := ak_ ha
        have HC := ak_ hc
        have HE := ak_ (show (q1 != p1) = false from bne_eq_false_iff_eq.2 he)
        clear ha hc he
        by_cases hcc : c = 0
        · rw [if_pos hcc] at h
          have h4 := Option.some.inj h
          simp only [Prod.mk.injEq] at h4
          obtain ⟨rfl, rfl⟩ := h4
          subst hcc
          clear h
          go_enter Tryz.func12, Tryz.ntmps12
          go_wp2_with (first
            | (go_at_call 22; refine (may_calls k A0 c0 l0 true _ HC0.out HP0.out HK.out).mono ?_; rintro e w1 ⟨rfl, hb⟩; have B1 := ak_ hb; clear hb)
            | (go_at_call 36; refine (read_calls k s HZ.out (some (p1, p2)) _ HO.out).mono ?_; rintro e w2 ⟨hr, hb⟩; obtain ⟨g, left, bad, v, rfl, hT, hg⟩ := readR_some hr; have B2 := ak_ (below_step B1.out hb); have T2 := ak_ hT; clear hb hg)
            | (go_at_call 16; refine (stream_Mark.calls k A0 c0 l0 q1 q2 _ (Kd.C_below HC0.out B2.out) HP0.out HQ.out).mono ?_; rintro e w3 ⟨rfl, hb⟩; have B3 := ak_ (below_step B2.out hb); have T3 := ak_ (T2.out.below hb); obtain ⟨vl, hvl⟩ : ∃ vl, vl = q1.map (fun x => Value.int .u8 x) := ⟨_, rfl⟩; rw [show arrV q1 = vl.toArray by rw [hvl]; rfl]; have HV := ak_ (show vl.toArray = arrV q1 by rw [hvl]; rfl); have HVS := ak_ (show vl.toArray.size = 32 by rw [HV.out, arrV_size, HRG.out.2]); have HVL := ak_ (show (Tryz.prog.info? 28).map (·.size) = some vl.length by rw [hvl, List.length_map, HRG.out.2]; exact info32); have HVO := ak_ (show vl.toArray.toList.all Value.oneCell' = true by rw [HV.out]; simpa using arrV_one q1); clear hb hvl)
            | ((with_reducible refine gate_dst (N := 8) rfl ?_); refine var_event (N := 8) (T := 28) (n := 32) (zc := arrV (List.replicate 32 0)) (cs := vl.toArray) rfl rfl rfl (.tmp 26) rfl rfl ?hr info32 (by simp [arrV_size]) HVS.out HVO.out ?hx ?hN ?_; (case hx => intro p_; rfl); (case hN => intro p_; rfl); (case hr => first | (go_simp; done) | (go_simp; rfl)); intro gv hgv w4 hx4 hb4; have X4 := ak_ hx4; have B4 := ak_ (below_step B3.out hb4); have T4 := ak_ (T3.out.below hb4); clear hx4 hb4 hgv))
          have DD := ak_ (show Below w4.heap.size w4 w4.drew from below_drew1 (Below.refl _ _))
          have HT := ak_ (show TkR w4.drew g (g + 1) p1 ⟨left, bad, p2⟩ v from T4.out.below DD.out)
          have HRV : w4.drew.rangeAt gv 0 vl := fun j u hu => by rw [Nat.zero_add, blk_cell (blk_below X4.out DD.out), List.getElem?_toArray]; exact hu
          obtain ⟨ul, hul⟩ : ∃ ul, ul = p1.map (fun x => Value.int .u8 x) := ⟨_, rfl⟩
          have HR := HT.out.range
          rw [← hul] at HR
          have HUS := ak_ (show (Tryz.prog.info? 28).map (·.size) = some ul.length by rw [hul, List.length_map]; have h32 := HT.out.2.2.1; rw [h32]; exact info32)
          have nq : ∀ W : World, (binOp .neq 28 (.agg vl.toArray) (.agg ul.toArray)).run Tryz.prog W = .ok (.bool (q1 != p1)) W := fun W => by
            rw [HV.out, show ul.toArray = arrV p1 by rw [hul]; rfl]
            exact neq_arr q1 p1 HRG.out.2 HT.out.2.2.1 W
          rw [HE.out] at nq
          clear hul
          refine start_ (n := 6) (S := (fun w' => w'.rangeAt gv 0 vl ∧ w'.rangeAt g 2 ul)) (ds := []) #[false, false, false, false, false, false] (by kernel_rfl) rfl rfl ⟨HRV, HR⟩ (fun hHeld => ?_)
          refine take_ (i := 0) (N := some 28) (v := .agg vl.toArray) (a' := ?_) #[true, false, false, false, false, false] rfl rfl (by kernel_rfl) (fun _ _ _ h => h) (yieldsIf_load_mid (by rfl) 28 (.tmp 8) rfl gv 0 rfl vl _ (fun w' h => h.1) Tryz.underlying28 rfl HVL.out) hHeld ?_ ?_
          rotate_left
          · simp only [Act.put, List.setIfInBounds_toArray, List.set_cons_zero, List.set_cons_succ, i64_w, i32_w]
            rfl
          refine pu_ 1 29 ?_
          refine pu_ 2 30 ?_
          refine pu_ 3 31 ?_
          refine take_ (i := 4) (N := some 32) (v := .agg ul.toArray) (a' := ?_) #[true, true, true, true, true, false] rfl rfl (by kernel_rfl) (fun _ _ _ h => h) (yieldsIf_load_mid (by rfl) 28 (.tmp 31) rfl g 2 rfl ul _ (fun w' h => h.2) Tryz.underlying28 rfl HUS.out) hHeld ?_ ?_
          rotate_left
          · simp only [Act.put, List.setIfInBounds_toArray, List.set_cons_zero, List.set_cons_succ, i64_w, i32_w]
            rfl
          refine pu_ 5 33 ?_
          refine done_ (by kernel_rfl) ?_
          clear hHeld HR HRV nq
          obtain ⟨A1, c1, hv⟩ := Kd.R_slice HT.out.2.1
          dsimp only at hv
          subst hv
          have z3 : w4.drew.cell? ⟨g, 34, none⟩ = some (.slice A1 p2.length c1) := (blk_cell HT.out.1 34).trans (tkCs34 HT.out.2.2.1)
          have HRD := ak_ (Kd.R_reads' HT.out.2.1)
          have B4 := ak_ (below_drew1 B4.out)
          go_wp2_with (first
            | (go_at_call 37; refine (item_Apply.calls k A0 c0 l0 A1 c1 p2 a1 a2 _ (Kd.C_below HC0.out B4.out) HP0.out HRD.out.2.2 HRD.out.2.1 HA.out).mono ?_; rintro e w5 ⟨v5, rfl, hR, hb⟩; obtain ⟨A5, c5, rfl⟩ := Kd.R_slice hR; have R5 := ak_ (Kd.R_lower hR B4.out.size); have B5 := ak_ (below_step B4.out hb); clear hb hR)
            | (go_at_call 20; refine (dirs_Check.calls k A5 c5 a1 0 _ (Kd.R_reads' R5.out).2.2 (Kd.R_reads' R5.out).2.1 HC.out).mono ?_; rintro e w6 ⟨rfl, hb⟩; have R6 := ak_ (Kd.R_below R5.out hb); have B6 := ak_ (below_step B5.out hb); clear hb))
          go_ret2
          exact ⟨_, rfl, R6.out, B6.out⟩
        · rw [if_neg hcc] at h
          have h4 := Option.some.inj h
          simp only [Prod.mk.injEq] at h4
          obtain ⟨rfl, rfl⟩ := h4
          have e2 : (c != 0) = true := bne_iff_ne.2 hcc
          clear h hcc
          go_enter Tryz.func12, Tryz.ntmps12
          go_wp2_with (first
            | (go_at_call 22; refine (may_calls k A0 c0 l0 true _ HC0.out HP0.out HK.out).mono ?_; rintro e w1 ⟨rfl, hb⟩; have B1 := ak_ hb; clear hb)
            | (go_at_call 36; refine (read_calls k s HZ.out (some (p1, p2)) _ HO.out).mono ?_; rintro e w2 ⟨hr, hb⟩; obtain ⟨g, left, bad, v, rfl, hT, hg⟩ := readR_some hr; have B2 := ak_ (below_step B1.out hb); have T2 := ak_ hT; clear hb hg)
            | (go_at_call 16; refine (stream_Mark.calls k A0 c0 l0 q1 q2 _ (Kd.C_below HC0.out B2.out) HP0.out HQ.out).mono ?_; rintro e w3 ⟨rfl, hb⟩; have B3 := ak_ (below_step B2.out hb); have T3 := ak_ (T2.out.below hb); obtain ⟨vl, hvl⟩ : ∃ vl, vl = q1.map (fun x => Value.int .u8 x) := ⟨_, rfl⟩; rw [show arrV q1 = vl.toArray by rw [hvl]; rfl]; have HV := ak_ (show vl.toArray = arrV q1 by rw [hvl]; rfl); have HVS := ak_ (show vl.toArray.size = 32 by rw [HV.out, arrV_size, HRG.out.2]); have HVL := ak_ (show (Tryz.prog.info? 28).map (·.size) = some vl.length by rw [hvl, List.length_map, HRG.out.2]; exact info32); have HVO := ak_ (show vl.toArray.toList.all Value.oneCell' = true by rw [HV.out]; simpa using arrV_one q1); clear hb hvl)
            | ((with_reducible refine gate_dst (N := 8) rfl ?_); refine var_event (N := 8) (T := 28) (n := 32) (zc := arrV (List.replicate 32 0)) (cs := vl.toArray) rfl rfl rfl (.tmp 26) rfl rfl ?hr info32 (by simp [arrV_size]) HVS.out HVO.out ?hx ?hN ?_; (case hx => intro p_; rfl); (case hN => intro p_; rfl); (case hr => first | (go_simp; done) | (go_simp; rfl)); intro gv hgv w4 hx4 hb4; have X4 := ak_ hx4; have B4 := ak_ (below_step B3.out hb4); have T4 := ak_ (T3.out.below hb4); clear hx4 hb4 hgv))
          have DD := ak_ (show Below w4.heap.size w4 w4.drew from below_drew1 (Below.refl _ _))
          have HT := ak_ (show TkR w4.drew g (g + 1) p1 ⟨left, bad, p2⟩ v from T4.out.below DD.out)
          have HRV : w4.drew.rangeAt gv 0 vl := fun j u hu => by rw [Nat.zero_add, blk_cell (blk_below X4.out DD.out), List.getElem?_toArray]; exact hu
          obtain ⟨ul, hul⟩ : ∃ ul, ul = p1.map (fun x => Value.int .u8 x) := ⟨_, rfl⟩
          have HR := HT.out.range
          rw [← hul] at HR
          have HUS := ak_ (show (Tryz.prog.info? 28).map (·.size) = some ul.length by rw [hul, List.length_map]; have h32 := HT.out.2.2.1; rw [h32]; exact info32)
          have nq : ∀ W : World, (binOp .neq 28 (.agg vl.toArray) (.agg ul.toArray)).run Tryz.prog W = .ok (.bool (q1 != p1)) W := fun W => by
            rw [HV.out, show ul.toArray = arrV p1 by rw [hul]; rfl]
            exact neq_arr q1 p1 HRG.out.2 HT.out.2.2.1 W
          rw [HE.out] at nq
          clear hul
          refine start_ (n := 6) (S := (fun w' => w'.rangeAt gv 0 vl ∧ w'.rangeAt g 2 ul)) (ds := []) #[false, false, false, false, false, false] (by kernel_rfl) rfl rfl ⟨HRV, HR⟩ (fun hHeld => ?_)
          refine take_ (i := 0) (N := some 28) (v := .agg vl.toArray) (a' := ?_) #[true, false, false, false, false, false] rfl rfl (by kernel_rfl) (fun _ _ _ h => h) (yieldsIf_load_mid (by rfl) 28 (.tmp 8) rfl gv 0 rfl vl _ (fun w' h => h.1) Tryz.underlying28 rfl HVL.out) hHeld ?_ ?_
          rotate_left
          · simp only [Act.put, List.setIfInBounds_toArray, List.set_cons_zero, List.set_cons_succ, i64_w, i32_w]
            rfl
          refine pu_ 1 29 ?_
          refine pu_ 2 30 ?_
          refine pu_ 3 31 ?_
          refine take_ (i := 4) (N := some 32) (v := .agg ul.toArray) (a' := ?_) #[true, true, true, true, true, false] rfl rfl (by kernel_rfl) (fun _ _ _ h => h) (yieldsIf_load_mid (by rfl) 28 (.tmp 31) rfl g 2 rfl ul _ (fun w' h => h.2) Tryz.underlying28 rfl HUS.out) hHeld ?_ ?_
          rotate_left
          · simp only [Act.put, List.setIfInBounds_toArray, List.set_cons_zero, List.set_cons_succ, i64_w, i32_w]
            rfl
          refine pu_ 5 33 ?_
          refine done_ (by kernel_rfl) ?_
          clear hHeld HR HRV nq
          obtain ⟨A1, c1, hv⟩ := Kd.R_slice HT.out.2.1
          dsimp only at hv
          subst hv
          have z3 : w4.drew.cell? ⟨g, 34, none⟩ = some (.slice A1 p2.length c1) := (blk_cell HT.out.1 34).trans (tkCs34 HT.out.2.2.1)
          have HRD := ak_ (Kd.R_reads' HT.out.2.1)
          have B4 := ak_ (below_drew1 B4.out)
          go_wp2_with (first
            | (go_at_call 37; refine (item_Apply.calls k A0 c0 l0 A1 c1 p2 a1 a2 _ (Kd.C_below HC0.out B4.out) HP0.out HRD.out.2.2 HRD.out.2.1 HA.out).mono ?_; rintro e w5 ⟨v5, rfl, hR, hb⟩; obtain ⟨A5, c5, rfl⟩ := Kd.R_slice hR; have R5 := ak_ (Kd.R_lower hR B4.out.size); have B5 := ak_ (below_step B4.out hb); clear hb hR)
            | (go_at_call 20; refine (dirs_Check.calls k A5 c5 a1 c _ (Kd.R_reads' R5.out).2.2 (Kd.R_reads' R5.out).2.1 HC.out).mono ?_; rintro e w6 ⟨rfl, hb⟩; have R6 := ak_ (Kd.R_below R5.out hb); have B6 := ak_ (below_step B5.out hb); clear hb))
          go_ret2
          exact ⟨_, rfl, Kd.R_nil _ _ _ _ _, B6.out⟩
end Go.Proofs.YtfkofbabeghgkaaGreat.Z
end

section
namespace Go.Proofs.YtfkofbabeghgkaaGreat.Z
attribute [local go_sem] max2_int min2_int max_two min_two max_three min_three max_four min_four   -- for this text's walks alone
def dirs_New.f (k : Nat)  : Option ((List (S77))) := (inode_Key.f k 1 1 (⟨#[]⟩ : ByteArray) 0).bind fun bt297 => ((inode_Encode.f k 1 0 1 0 (⟨#[]⟩ : ByteArray)).bind fun bt299 => (some (([(⟨bt297.1, bt299.1⟩ : S77)] : List (S77)))))
theorem dirs_New.mono : ∀ k, LeO (dirs_New.f k ) (dirs_New.f (k + 1) ) := by
 intro  k
 unfold dirs_New.f
 repeat' first
   | (with_reducible exact inode_Encode.mono _ _ _ _ _ _)
   | (with_reducible exact inode_Key.mono _ _ _ _ _)
   | (with_reducible exact LeO.refl _)
   | (with_reducible exact LeO.none _)
   | (with_reducible refine LeO.ite ?_ ?_)
   | (with_reducible refine LeO.bind ?_ (fun _ => ?_))
   | exact inode_Encode.mono _ _ _ _ _ _
   | exact inode_Key.mono _ _ _ _ _
   | exact LeO.none _
   | refine LeO.ite ?_ ?_
   | refine LeO.bind ?_ (fun _ => ?_)
set_option maxHeartbeats 8000000 in
set_option maxRecDepth 100000 in
theorem dirs_New.calls (k : Nat)  (r : List (S77)) (w : World) (h : dirs_New.f k  = some r) :
  Calls Tryz.prog 43 #[] w fun e w' => ∃ v0_ : Value, e = .returned (v0_) ∧ Kd.R k77 77 w' w.heap.size (fun _ => True) v0_ r ∧ Below w.heap.size w w' := by
 have hu106 := Tryz.underlying106
 have hu100 := Tryz.underlying100
 have hu77 := Tryz.underlying77
 have HB := ak_ (Below.refl w.heap.size w)
 have H : ((inode_Key.f k 1 1 (⟨#[]⟩ : ByteArray) 0).bind fun bt297 => ((inode_Encode.f k 1 0 1 0 (⟨#[]⟩ : ByteArray)).bind fun bt299 => (some (([(⟨bt297.1, bt299.1⟩ : S77)] : List (S77)))))) = some r := h
 clear h
 replace H := Option.bind_eq_some_iff.mp H
 obtain ⟨⟨t297, t298⟩, A10, H⟩ := H
 replace H : ((inode_Encode.f k 1 0 1 0 (⟨#[]⟩ : ByteArray)).bind fun bt299 => (some (([(⟨t297, bt299.1⟩ : S77)] : List (S77))))) = some r := H
 have A1 := ak_ A10
 clear A10
 replace H := Option.bind_eq_some_iff.mp H
 obtain ⟨⟨t299, t300⟩, A20, H⟩ := H
 replace H : (some (([(⟨t297, t299⟩ : S77)] : List (S77)))) = some r := H
 have A2 := ak_ A20
 clear A20
 obtain ⟨y301, hy301⟩ : ∃ y_ : List (S77), y_ = (([(⟨t297, t299⟩ : S77)] : List (S77))) := ⟨_, rfl⟩
 replace H : (some y301) = some r := by first | (rw [hy301]; with_reducible exact H) | (have H2_ := (Option.bind_some _ _).symm.trans H; rw [hy301]; with_reducible exact H2_) | (have H2_ := (Option.bind_some _ _).symm.trans H; with_reducible exact H2_) | with_reducible exact H | (rw [hy301]; exact H) | exact H
 have Ny301 := ak_ hy301
 clear hy301
 obtain rfl := Option.some.inj H
 go_enter Tryz.func43, Tryz.ntmps43
 go_wp2_with (first | ((with_reducible refine gate_callee (f := 77) rfl ?_); refine gl_ (some 7) Tryz.func77 #[.agg #[.int .u8 1, .int .u32 1, .string (⟨#[]⟩ : ByteArray), .int .u32 0]] ?_; (with_reducible refine (inode_Key.calls k 1 1 (⟨#[]⟩ : ByteArray) 0 t297 t298 _ A1.out).mono ?_); rintro e w3 ⟨rfl, hb⟩; refine ⟨_, rfl, ?_⟩; replace HB := hb_ hb; (try clear hb); (try clear hb2); (try clear hk); (try clear hi)) | ((with_reducible refine gate_callee (f := 78) rfl ?_); refine gl_ (some 12) Tryz.func78 #[.agg #[.int .u8 1, .int .u16 0, .int .u32 1, .int .u32 0, .string (⟨#[]⟩ : ByteArray)]] ?_; (with_reducible refine (inode_Encode.calls k 1 0 1 0 (⟨#[]⟩ : ByteArray) t299 t300 _ A2.out).mono ?_); rintro e w4 ⟨rfl, hb⟩; refine ⟨_, rfl, ?_⟩; replace HB := hb_ hb; (try clear hb); (try clear hb2); (try clear hk); (try clear hi)) | ((with_reducible refine gate_dst (N := 18) rfl ?_); refine Kd.R_lit k77 _ 77 ?hg (N := 18) ?hd (xs := ([(⟨t297, t299⟩ : S77)] : List (S77))) (inner := [.string t297, .string t299]) (ok := fun _ => True) (okp := fun _ => True) ?hr ?hp (fun _ hk => hk) trivial (Below.refl _ _) (Nat.le_refl _) (by simp) ?_; (case hd => rfl); (case hg => rfl); (case hr => first | (go_simp; done) | (go_simp; rfl)); (case hp => exact (Reps.c2 (show Kd.M k77 _ _ _ (⟨t297, t299⟩ : S77) [.string t297, .string t299] from (k77_mkM _ _ _ (⟨t297, t299⟩ : S77) )) (Reps.none _ _))); intro v302 w5 ho6 hb hg_ hnew_; clear hg_ hnew_; (first | rw [← Ny301.out] at ho6 | (simp only [Int.reduceToNat] at ho6; rw [← Ny301.out] at ho6)); have HO303 := rl_ ho6; replace HB := hb_ hb; clear hb ho6))
 go_ret
 exact ⟨_, by first | rfl | (simp [errW_none, errW_some] <;> rfl) | (simp [*, errW_none, errW_some] <;> rfl), by (with_reducible repeat (first | apply Kd.R_alloc | apply Kd.R_drewN | apply Kd.R_drew)); exact HO303.out, bel_⟩
end Go.Proofs.YtfkofbabeghgkaaGreat.Z
end

section
namespace Go.Proofs.YtfkofbabeghgkaaGreat.Z
open Go.Proofs.YtfkofbabeghgkaaGreat.PM
def newI : It := ⟨ba (keyL 1 1 [] 0), ba (enc 1 0 1 0 [])⟩
theorem New_f : Ev (fun k => dirs_New.f k) [newI] := by
  unfold dirs_New.f
  refine Ev.bind (key_f 1 1 ⟨#[]⟩ 0 (by decide) ⟨by decide, by decide⟩ (by decide)) ?_
  refine Ev.bind (encode_f 1 0 1 0 ⟨#[]⟩ ⟨by decide, by decide⟩ ⟨by decide, by decide⟩ ⟨by decide, by decide⟩ ⟨by decide, by decide⟩) ?_
  exact Ev.const rfl
theorem new_ok : okL [newI] = true := by
  rw [okL_iff]
  refine ⟨fun x hx => ?_, by unfold Asc; simp⟩
  rw [List.mem_singleton.1 hx]
  unfold okI okK
  rw [ByteArray.toList_eq]
  decide
theorem new_look : lookS [newI] = some (addS VS0 newI) := by
  unfold lookS
  rw [show parseS [newI] VS0 = some (addS VS0 newI) by kernel_rfl]
  exact if_pos ⟨new_ok, by kernel_rfl, by kernel_rfl, by kernel_rfl⟩
theorem new_fit : Fit [newI] := fun x hx => by rw [List.mem_singleton.1 hx]; exact ⟨by decide, by decide⟩
end Go.Proofs.YtfkofbabeghgkaaGreat.Z
end

section
namespace Go.Proofs.YtfkofbabeghgkaaGreat.Z
open Go.Proofs.YtfkofbabeghgkaaGreat.PM
def sha0 : List Int := [227, 176, 196, 66, 152, 252, 28, 20, 154, 251, 244, 200, 153, 111, 185, 36, 39, 174, 65, 228, 100, 155, 147, 76, 164, 149, 153, 27, 120, 82, 184, 85]
set_option maxRecDepth 100000 in
theorem sha_empty : hash_Sum.f 20 ⟨#[]⟩ = some sha0 := by kernel_rfl
def shaN : List Int := [203, 174, 254, 109, 9, 168, 255, 172, 185, 252, 123, 53, 129, 42, 253, 87, 107, 19, 9, 237, 159, 238, 194, 88, 173, 246, 96, 89, 108, 179, 193, 249]
def newT : ByteArray := ⟨#[0, 5, 105, 0, 0, 0, 1, 0, 13, 1, 0, 0, 0, 0, 0, 1, 0, 0, 0, 0, 0, 0]⟩
theorem newT_eq : newT.data.toList = txtB (key newI) ++ txtB newI.f1.data.toList := by
  rw [show key newI = newI.f0.data.toList from ByteArray.toList_eq _]
  kernel_rfl
set_option maxRecDepth 100000 in
theorem sha_new : hash_Sum.f 20 newT = some shaN := by kernel_rfl
def str0 : Bs := [67, 83, 227, 176, 196, 66, 152, 252, 28, 20, 154, 251, 244, 200, 153, 111, 185, 36, 39, 174, 65, 228, 100, 155, 147, 76, 164, 149, 153, 27, 120, 82, 184, 85, 0, 0, 0, 1, 1, 0, 5, 105, 0, 0, 0, 1, 0, 13, 1, 0, 0, 0, 0, 0, 1, 0, 0, 0, 0, 0, 0, 236, 107, 209, 126]
theorem sha0_bytes : sha0.map (fun n => UInt8.ofNat n.toNat) = [227, 176, 196, 66, 152, 252, 28, 20, 154, 251, 244, 200, 153, 111, 185, 36, 39, 174, 65, 228, 100, 155, 147, 76, 164, 149, 153, 27, 120, 82, 184, 85] := by decide
theorem str0_eq : strB (sha0.map (fun n => UInt8.ofNat n.toNat)) [ad newI] = str0 := by
  rw [sha0_bytes]
  unfold strB bodyB
  rw [show ([ad newI] : List Ch).flatMap chB = 1 :: newT.data.toList by
    rw [newT_eq, List.flatMap_cons, List.flatMap_nil, List.append_nil]
    exact if_pos rfl]
  kernel_rfl
theorem str0_more : readB (str0 ++ [120]) = none := by
  unfold readB
  exact if_neg (fun h => absurd h.2.2 (by decide +kernel))
end Go.Proofs.YtfkofbabeghgkaaGreat.Z
end

section
namespace Go.Proofs.YtfkofbabeghgkaaGreat.Z
open Go.Proofs.YtfkofbabeghgkaaGreat.PM
noncomputable def baseR (s : Bs) : List Int × Int := match readB s with
  | none => (List.replicate 32 0, 16)
  | some r => (ints r.1, 0)
theorem baseF_f (s : ByteArray) (hs : s.size ≤ 1073741824) : Ev (fun k => baseF k s) (baseR s.data.toList) := by
  unfold baseF baseR
  refine Ev.bind (readF_f s hs) (Ev.const ?_)
  cases readB s.data.toList <;> rfl
theorem mkB_nil : mkB [] = sha0 := hS_is (by decide) sha_empty
theorem mkY_nil : mkY [] = sha0.map (fun n => UInt8.ofNat n.toNat) := by unfold mkY; rw [mkB_nil]; rfl
theorem mkB_new : mkB [newI] = shaN := by
  unfold mkB
  rw [show (ba ([newI].flatMap itB)) = newT by rw [← data_ba newT, newT_eq, List.flatMap_cons, List.flatMap_nil, List.append_nil]; rfl]
  exact hS_is (by decide) sha_new
theorem rtB_new : rtB [newI] = true := by unfold rtB; rw [new_look]; rfl
theorem lvdiff : diffL [] [newI] = [ad newI] := by rw [diffL, diffL]; rfl
theorem send_new : sendB mkY rtB [] [newI] = some str0 := by
  unfold sendB
  rw [if_pos ⟨rfl, rtB_new⟩, mkY_nil, lvdiff, str0_eq]
theorem lv_send : Ev (fun k => sendF k [] [newI]) (ba str0, 0) := by
  refine Ev.val (sendF_f (fun x hx => by cases hx) new_fit (by decide)) ?_
  unfold sendR
  rw [send_new]
theorem read_new : readB str0 = some (mkY [], [ad newI]) := by
  rw [← lvdiff]
  exact (read_sent (mk := mkY) (rt := rtB) mkY_len rtB_ok (by decide) send_new).2.2.2.2.2
theorem lv_recv1 : Ev (fun k => recvF k [] (ba str0)) ([newI], 0) := by
  refine Ev.val (recvF_f (fun x hx => by cases hx) (by decide) (ba str0) (by decide)) ?_
  rw [ba_data]
  unfold recvR
  rw [if_pos (show mayB rtB [] = true from rfl), recv_sent (mk := mkY) (rt := rtB) mkY_len rtB_ok (by decide) send_new]
theorem lv_recv2 : Ev (fun k => recvF k [newI] (ba str0)) ([], 16) := by
  refine Ev.val (recvF_f new_fit (by decide) (ba str0) (by decide)) ?_
  rw [ba_data]
  unfold recvR
  have hm : mayB rtB [newI] = true := by unfold mayB; rw [rtB_new]; rfl
  rw [if_pos hm]
  unfold recvB
  rw [if_pos hm, read_new]
  have hne : ¬ (mkY [] = mkY [newI]) := fun h => by
    have := congrArg ints h
    rw [mkY_ints, mkY_ints, mkB_nil, mkB_new] at this
    exact absurd this (by decide)
  dsimp only
  rw [if_neg (fun h => hne h.1)]
theorem lv_recv3 : Ev (fun k => recvF k [] (ba (str0 ++ [120]))) ([], 16) := by
  refine Ev.val (recvF_f (fun x hx => by cases hx) (by decide) (ba (str0 ++ [120])) (by decide)) ?_
  rw [ba_data]
  unfold recvR
  rw [if_pos (show mayB rtB [] = true from rfl)]
  unfold recvB
  rw [if_pos (show mayB rtB [] = true from rfl), str0_more]
theorem lv_base : Ev (fun k => baseF k (ba str0)) (sha0, 0) := by
  refine Ev.val (baseF_f (ba str0) (by decide)) ?_
  rw [ba_data]
  unfold baseR
  rw [read_new]
  show (ints (mkY []), (0 : Int)) = _
  rw [mkY_ints, mkB_nil]
theorem lv_mark : Ev (fun k => markF k []) (sha0, 0) := by
  refine Ev.val (markF_f (l := []) (by decide)) ?_
  rw [if_pos (show okL [] = true from rfl), mkB_nil]
theorem lv_same : Ev (fun k => cambiumref04_Same.f k [newI] [newI]) true := by
  obtain ⟨b, h, hb⟩ := same_f [newI] [newI] (by decide)
  exact Ev.val h (hb.2 rfl)
theorem send_nil (k : Nat) (A1 : Option Addr) (c1 : Nat) (l1 : List VIT) (r1 : ByteArray) (r2 : Int) (w : World) (hr1 : Kd.C k77 w A1 l1.length l1) (hc1 : l1.length ≤ c1) (h : sendF k [] l1 = some (r1, r2)) :
    Calls Tryz.prog 10 #[.slice none 0 0, .slice A1 l1.length c1] w fun e w' => e = .returned (.tuple #[.string r1, .int .i64 r2]) ∧ Below w.heap.size w w' := stream_Send.calls k none 0 [] A1 c1 l1 r1 r2 w (Kd.C_nil _ _) (Nat.le_refl _) hr1 hc1 h
theorem recv_nil (k : Nat) (s : ByteArray) (r1 : List It) (r2 : Int) (w : World) (hs : s.size ≤ 4611686018427387904) (h : recvF k [] s = some (r1, r2)) :
    Calls Tryz.prog 12 #[.slice none 0 0, .string s] w fun e w' => ∃ v0_, e = .returned (.tuple #[v0_, .int .i64 r2]) ∧ Kd.R k77 77 w' w.heap.size (fun _ => True) v0_ r1 ∧ Below w.heap.size w w' := stream_Receive.calls k none 0 [] s r1 r2 w (Kd.C_nil _ _) (Nat.le_refl _) hs h
theorem recv_one (k : Nat) (A0 : Option Addr) (c0 : Nat) (x : It) (s : ByteArray) (r1 : List It) (r2 : Int) (w : World) (hr : Kd.C k77 w A0 1 [x]) (hc : 1 ≤ c0) (hs : s.size ≤ 4611686018427387904) (h : recvF k [x] s = some (r1, r2)) :
    Calls Tryz.prog 12 #[.slice A0 1 c0, .string s] w fun e w' => ∃ v0_, e = .returned (.tuple #[v0_, .int .i64 r2]) ∧ Kd.R k77 77 w' w.heap.size (fun _ => True) v0_ r1 ∧ Below w.heap.size w w' := stream_Receive.calls k A0 c0 [x] s r1 r2 w hr hc hs h
theorem mark_nil (k : Nat) (r1 : List Int) (r2 : Int) (w : World) (h : markF k [] = some (r1, r2)) :
    Calls Tryz.prog 16 #[.slice none 0 0] w fun e w' => e = .returned (.tuple #[.agg (arrV r1), .int .i64 r2]) ∧ Below w.heap.size w w' := stream_Mark.calls k none 0 [] r1 r2 w (Kd.C_nil _ _) (Nat.le_refl _) h
def cambiumlaw18_lives.f : Option Bool := some true
theorem load_mid_g {P : Program} {ops : Array Oper} {rest : List Oper} {op : Oper} {a : Act} {w : World} {Q : Exit → Act → World → Prop} (hw : Region.wanted op (yielded ops a.tmps) = true) (ty : TypeId) (x : Operand) (ho : op.op = .load ty x)
    (b o : Nat) (hx : a.eval x = .pointer (some ⟨b, o, none⟩)) (cs : List Value) (d : TypeDesc) (hc : w.rangeAt b o cs)
    (hu : P.underlying ty = some d) (hd : d.isRow = true) (hi : (P.info? ty).map (·.size) = some cs.length)
    (h : wpList P ops Q rest (a.put op.dst (.agg cs.toArray)) w) : wpList P ops Q (op :: rest) a w := by
  unfold wpList
  rw [hw]
  rw [if_pos rfl]
  exact Or.inl (wp_load_mid ty x ho b o hx cs d hc hu hd hi h)
set_option maxRecDepth 100000 in
set_option maxHeartbeats 3200000 in
theorem cambiumlaw18_lives.calls (r : Bool) (w : World) (h : cambiumlaw18_lives.f = some r) : Calls Tryz.prog 18 #[] w fun e w' => e = .returned (.bool r) ∧ Below w.heap.size w w' := by
  obtain rfl := Option.some.inj h
  obtain ⟨k1, h1⟩ := New_f
  obtain ⟨k2, h2⟩ := lv_send
  obtain ⟨k3, h3⟩ := lv_recv1
  obtain ⟨k4, h4⟩ := lv_recv2
  obtain ⟨k5, h5⟩ := lv_recv3
  obtain ⟨k6, h6⟩ := lv_base
  obtain ⟨k7, h7⟩ := lv_mark
  obtain ⟨k8, h8⟩ := lv_same
  obtain ⟨S, hS⟩ : ∃ S, S = ba str0 := ⟨_, rfl⟩
  obtain ⟨T, hT⟩ : ∃ T, T = ba (str0 ++ [120]) := ⟨_, rfl⟩
  rw [← hS] at h2 h3 h4 h6
  rw [← hT] at h5
  have H1 := ak_ (show dirs_New.f k1 = some [newI] from h1 k1 (Nat.le_refl _))
  have H2 := ak_ (show sendF k2 [] [newI] = some (S, 0) from h2 k2 (Nat.le_refl _))
  have H3 := ak_ (show recvF k3 [] S = some ([newI], 0) from h3 k3 (Nat.le_refl _))
  have H4 := ak_ (show recvF k4 [newI] S = some ([], 16) from h4 k4 (Nat.le_refl _))
  have H5 := ak_ (show recvF k5 [] T = some ([], 16) from h5 k5 (Nat.le_refl _))
  have H6 := ak_ (show baseF k6 S = some (sha0, 0) from h6 k6 (Nat.le_refl _))
  have H7 := ak_ (show markF k7 [] = some (sha0, 0) from h7 k7 (Nat.le_refl _))
  have H8 := ak_ (show cambiumref04_Same.f k8 [newI] [newI] = some true from h8 k8 (Nat.le_refl _))
  have hz : S.size = 65 := by rw [hS]; rfl
  have HSS := ak_ (show S.size ≤ 4611686018427387904 by omega)
  have HTS := ak_ (show T.size ≤ 4611686018427387904 by rw [hT]; decide)
  have x1 : S.extract 0 2 = ⟨#[67, 83]⟩ := by rw [hS]; rfl
  have x2 : S ++ (⟨#[120]⟩ : ByteArray) = T := by rw [hS, hT]; rfl
  have c1 : decide ((2 : Int) < (S.size : Int)) = true := decide_eq_true (by omega)
  have c2 : decide (2 < S.size) = true := decide_eq_true (by omega)
  have c3 : ((2 : Int) ≤ (S.size : Int)) = True := eq_true (by omega)
  have c4 : (2 ≤ S.size) = True := eq_true (by omega)
  have s1 : (9223372036854775807 < S.size + 1) = False := eq_false (by omega)
  have s2 : decide (9223372036854775807 < S.size + 1) = false := decide_eq_false (by omega)
  have s3 : decide (S.size + 1 ≤ 9223372036854775807) = true := decide_eq_true (by omega)
  obtain ⟨vl, hvl⟩ : ∃ vl : List Value, vl = sha0.map (fun x => Value.int .u8 x) := ⟨_, rfl⟩
  have HV := ak_ (show arrV sha0 = vl.toArray by rw [hvl]; rfl)
  have HVS := ak_ (show vl.toArray.size = 32 by rw [hvl]; rfl)
  have HVO := ak_ (show vl.toArray.toList.all Value.oneCell' = true by rw [hvl]; rfl)
  have HV0 := ak_ (show vl.toArray[0]? = some (.int .u8 227) by rw [hvl]; rfl)
  have HVL := ak_ (show (Tryz.prog.info? 28).map (·.size) = some vl.length by rw [hvl]; exact info32)
  have eq9 : ∀ W : World, (binOp .eql 28 (.agg vl.toArray) (.agg vl.toArray)).run Tryz.prog W = .ok (.bool true) W := fun W => by
    rw [← HV.out]
    exact eql_arr sha0 sha0 rfl rfl W
  clear h h1 h2 h3 h4 h5 h6 h7 h8 hS hT hz hvl
  go_enter Tryz.func18, Tryz.ntmps18
  go_wp2_with (first
    | (go_at_call 43; refine (dirs_New.calls k1 [newI] _ H1.out).mono ?_; rintro e w9 ⟨v9, rfl, hR, hb⟩; obtain ⟨A9, c9, rfl⟩ := Kd.R_slice hR; have R9 := ak_ hR; have B9 := ak_ (below_step B8.out hb); have L9 := ak_ (Kd.C_below L8.out hb); have V9 := ak_ (blk_below V8.out hb); have U9 := ak_ (blk_below U8.out hb); clear hb hR)
    | (go_at_call 43; refine (dirs_New.calls k1 [newI] _ H1.out).mono ?_; rintro e w1 ⟨v1, rfl, hR, hb⟩; obtain ⟨A1, c1_, rfl⟩ := Kd.R_slice hR; have R1 := ak_ hR; have B1 := ak_ hb; clear hb hR)
    | (go_at_call 10; refine (send_nil k2 A1 c1_ [newI] S 0 _ (Kd.R_reads' R1.out).2.2 (Kd.R_reads' R1.out).2.1 H2.out).mono ?_; rintro e w2 ⟨rfl, hb⟩; have B2 := ak_ (below_step B1.out hb); clear hb)
    | (go_at_call 12; (with_reducible refine (recv_nil k3 S [newI] 0 _ HSS.out H3.out).mono ?_); rintro e w3 ⟨v3, rfl, hR, hb⟩; obtain ⟨A3, c3_, rfl⟩ := Kd.R_slice hR; have L3 := ak_ (show Kd.C k77 w3 A3 1 [newI] from (Kd.R_reads' hR).2.2); have P3 := ak_ (show 1 ≤ c3_ from (Kd.R_reads' hR).2.1); have B3 := ak_ (below_step B2.out hb); clear hb hR)
    | (go_at_call 12; (with_reducible refine (recv_one k4 A3 c3_ newI S [] 16 _ L3.out P3.out HSS.out H4.out).mono ?_); rintro e w4 ⟨v4, rfl, hR, hb⟩; have B4 := ak_ (below_step B3.out hb); have L4 := ak_ (Kd.C_below L3.out hb); clear hb hR)
    | (go_at_call 12; (with_reducible refine (recv_nil k5 T [] 16 _ HTS.out H5.out).mono ?_); rintro e w5 ⟨v5, rfl, hR, hb⟩; have B5 := ak_ (below_step B4.out hb); have L5 := ak_ (Kd.C_below L4.out hb); clear hb hR)
    | (go_at_call 14; refine (stream_Base.calls k6 S sha0 0 _ HSS.out H6.out).mono ?_; rintro e w6 ⟨rfl, hz, hb⟩; rw [HV.out]; have B6 := ak_ (below_step B5.out hb); have L6 := ak_ (Kd.C_below L5.out hb); clear hb hz)
    | ((with_reducible refine gate_dst (N := 9) rfl ?_); refine var_event (N := 9) (T := 28) (n := 32) (zc := arrV (List.replicate 32 0)) (cs := vl.toArray) rfl rfl rfl (.tmp 38) rfl rfl ?hr info32 (by simp [arrV_size]) HVS.out HVO.out ?hx ?hN ?_; (case hx => intro p_; rfl); (case hN => intro p_; rfl); (case hr => first | (go_simp; done) | (go_simp; rfl)); intro gb hgb w7 hx hb; have V7 := ak_ hx; have B7 := ak_ (below_step B6.out hb); have L7 := ak_ (Kd.C_below L6.out hb); clear hx hb hgb)
    | (go_at_call 16; (with_reducible refine (mark_nil k7 sha0 0 _ H7.out).mono ?_); rintro e w7' ⟨rfl, hb⟩; rw [HV.out]; have B7' := ak_ (below_step B7.out hb); have L7' := ak_ (Kd.C_below L7.out hb); have V7' := ak_ (blk_below V7.out hb); clear hb)
    | ((with_reducible refine gate_dst (N := 11) rfl ?_); refine var_event (N := 11) (T := 28) (n := 32) (zc := arrV (List.replicate 32 0)) (cs := vl.toArray) rfl rfl rfl (.tmp 42) rfl rfl ?hr info32 (by simp [arrV_size]) HVS.out HVO.out ?hx ?hN ?_; (case hx => intro p_; rfl); (case hN => intro p_; rfl); (case hr => first | (go_simp; done) | (go_simp; rfl)); intro gm hgm w8 hx hb; have U8 := ak_ hx; have B8 := ak_ (below_step B7'.out hb); have L8 := ak_ (Kd.C_below L7'.out hb); have V8 := ak_ (blk_below V7'.out hb); clear hx hb hgm)
    | (go_at_call 19; refine (cambiumref04_Same.calls k8 A3 c3_ [newI] A9 c9 [newI] true _ L9.out P3.out (Kd.R_reads' R9.out).2.2 (Kd.R_reads' R9.out).2.1 H8.out).mono ?_; rintro e w10 ⟨rfl, hd⟩; have V10 := ak_ (blk_below V9.out hd.below); have U10 := ak_ (blk_below U9.out hd.below); have B10 := ak_ (below_step B9.out hd.below); have ld9 := ak_ (show w10.rangeAt gb 0 vl from fun j u hu => by rw [Nat.zero_add, blk_cell V10.out, List.getElem?_toArray]; exact hu); have ld11 := ak_ (show w10.rangeAt gm 0 vl from fun j u hu => by rw [Nat.zero_add, blk_cell U10.out, List.getElem?_toArray]; exact hu); have q0 : w10.cell? ⟨gm, 0, none⟩ = some (.int .u8 227) := (blk_cell U10.out 0).trans HV0.out; clear hd)
    | ((with_reducible refine gate_dst (N := 78) rfl ?_); refine load_mid_g (by rfl) 28 (.tmp 9) rfl gb 0 rfl vl _ ld9.out Tryz.underlying28 rfl HVL.out ?_)
    | ((with_reducible refine gate_dst (N := 79) rfl ?_); refine load_mid_g (by rfl) 28 (.tmp 11) rfl gm 0 rfl vl _ ld11.out Tryz.underlying28 rfl HVL.out ?_))
  go_ret
  exact ⟨rfl, B10.out⟩
end Go.Proofs.YtfkofbabeghgkaaGreat.Z
end

section
namespace Go.Proofs.YtfkofbabeghgkaaGreat.Z
open Go.Proofs.YtfkofbabeghgkaaGreat.PM
theorem ev1 {α : Type} {g : Nat → Option α} {r : α} (h : Ev g r) : ∃ k, g k = some r := by
  obtain ⟨k, h⟩ := h
  exact ⟨k, h k (Nat.le_refl _)⟩
def Sm (l : List It) : Prop := Fit l ∧ l.length ≤ 1048576
theorem send_no {a b : List It} (ha : Sm a) (hb : Sm b) (h : sendB mkY rtB a b = none) : ∃ k, sendF k a b = some (⟨#[]⟩, 9) := by
  refine ev1 (Ev.val (sendF_f ha.1 hb.1 (by have := ha.2; have := hb.2; omega)) ?_)
  unfold sendR
  rw [h]
theorem send_yes {a b : List It} (ha : Sm a) (hb : Sm b) {s : Bs} (h : sendB mkY rtB a b = some s) : ∃ k, sendF k a b = some (ba s, 0) := by
  refine ev1 (Ev.val (sendF_f ha.1 hb.1 (by have := ha.2; have := hb.2; omega)) ?_)
  unfold sendR
  rw [h]
theorem send_parts {a b : List It} (ha : Sm a) (hb : Sm b) {s : Bs} (h : sendB mkY rtB a b = some s) : okL a = true ∧ okL b = true ∧ rtB b = true ∧ mayB rtB a = true ∧ s = strB (mkY a) (diffL a b) ∧ readB s = some (mkY a, diffL a b) :=
  read_sent (mk := mkY) (rt := rtB) mkY_len rtB_ok (by have := ha.2; have := hb.2; omega) h
theorem send_len {a b : List It} (ha : Sm a) (hb : Sm b) {s : Bs} (h : sendB mkY rtB a b = some s) : 42 ≤ s.length ∧ s.length ≤ 536870912 := by
  obtain ⟨hoa, hob, _, _, e, _⟩ := send_parts ha hb h
  have h1 := chB_len (diff_ok hoa hob)
  have h2 := diffL_len a b
  have h3 := ha.2
  have h4 := hb.2
  rw [e]
  unfold strB bodyB
  simp only [List.length_append, be_len, mkY_len, List.length_cons, List.length_nil]
  omega
theorem base_yes {s : Bs} {r : Bs × List Ch} (hs : s.length ≤ 1073741824) (h : readB s = some r) : ∃ k, baseF k (ba s) = some (ints r.1, 0) := by
  refine ev1 (Ev.val (baseF_f (ba s) (by rw [ba_size]; exact hs)) ?_)
  rw [ba_data]
  unfold baseR
  rw [h]
theorem base_no {s : Bs} (hs : s.length ≤ 1073741824) (h : readB s = none) : ∃ k, baseF k (ba s) = some (List.replicate 32 0, 16) := by
  refine ev1 (Ev.val (baseF_f (ba s) (by rw [ba_size]; exact hs)) ?_)
  rw [ba_data]
  unfold baseR
  rw [h]
theorem sm_len {B : It → Nat} (hB : ∀ x, 1 ≤ B x) (l : List It) : l.length ≤ (l.map B).sum := by
  induction l with
  | nil => exact Nat.le_refl _
  | cons x r ih =>
    have := hB x
    rw [List.length_cons, List.map_cons, List.sum_cons]
    omega
end Go.Proofs.YtfkofbabeghgkaaGreat.Z
end

section
namespace Go.Proofs.YtfkofbabeghgkaaGreat.Z
open Go.ChangeShapes Go.WideShapes Go.ChangeAt Go.RowKit Go.Deep Go.Proofs.YtfkofbabeghgkaaGreatW.PrintWords Go.Proofs.YtfkofbabeghgkaaGreatW.PrintLast
def Opens {α : Type} (P : Program) (t : TypeId) (d : Kd α) (G : α → Prop) (B : α → Nat) : Prop :=
  d.sz = P.cellsOf t ∧ ∀ {H : Type} {enc : TypeId × Value → H} {w : World} {base : Nat} {spare : Nat → Bool} {held : Bool} {fuel : Nat} {cs : List Value} {x : DataW H × List MemPlace},
    DataW.trod enc P w base spare held fuel t cs = some x → ∃ a, d.K w a cs ∧ G a ∧ B a ≤ Rows.uptoBulk x.1
theorem Opens.bool {P : Program} {t : TypeId} (ht : P.underlying t = some .bool) (hc : P.cellsOf t = 1) : Opens P t Kd.bool (fun _ => True) (fun _ => 1) := by
  refine ⟨hc.symm, fun h => ?_⟩
  obtain ⟨b, rfl, rfl⟩ := DataW.trod_bool ht h
  exact ⟨b, rfl, trivial, by simp [Rows.uptoBulk]⟩
theorem Opens.int {P : Program} {t : TypeId} {k : IntKind} (ht : P.underlying t = some (.int k)) (hc : P.cellsOf t = 1) : Opens P t (Kd.int k) (fun n => (Lit.int k n).wf = true) (fun _ => 1) := by
  refine ⟨hc.symm, fun h => ?_⟩
  obtain ⟨b, rfl, rfl, hw⟩ := DataW.trod_int ht h
  exact ⟨b, rfl, hw, by simp [Rows.uptoBulk]⟩
theorem Opens.string {P : Program} {t : TypeId} (ht : P.underlying t = some .string) (hc : P.cellsOf t = 1) : Opens P t Kd.string (fun s => s.size ≤ maxLen) (fun s => s.size + 1) := by
  refine ⟨hc.symm, fun h => ?_⟩
  obtain ⟨b, rfl, rfl, hw⟩ := DataW.trod_string ht h
  exact ⟨b, rfl, hw, by simp [Rows.uptoBulk]⟩
theorem bulk_len {H : Type} (l : List (DataW H)) {α : Type} {B : α → Nat} (xs : List α) (hl : xs.length = l.length) (h : ∀ (i : Nat) (a : α) (y : DataW H), xs[i]? = some a → l[i]? = some y → B a ≤ Rows.uptoBulk y) : (xs.map B).sum ≤ Rows.uptoBulkAll l := by
  induction l generalizing xs with
  | nil => have : xs = [] := List.eq_nil_of_length_eq_zero hl; subst this; simp [Rows.uptoBulkAll]
  | cons y l ih =>
    cases xs with
    | nil => simp at hl
    | cons a xs =>
      simp only [List.map_cons, List.sum_cons, Rows.uptoBulkAll]
      have h0 := h 0 a y rfl rfl
      have h1 := ih xs (by simpa using hl) (fun i a y ha hy => h (i + 1) a y (by simpa using ha) (by simpa using hy))
      omega
theorem list_of_each {α : Type} (p : Nat → α → Prop) : ∀ n : Nat, (∀ i, i < n → ∃ a, p i a) → ∃ l : List α, l.length = n ∧ ∀ i a, l[i]? = some a → p i a
  | 0, _ => ⟨[], rfl, fun i a h => by simp at h⟩
  | n + 1, h => by
    obtain ⟨l, hl, hp⟩ := list_of_each p n (fun i hi => h i (by omega))
    obtain ⟨a, ha⟩ := h n (by omega)
    refine ⟨l ++ [a], by simp [hl], fun i b hb => ?_⟩
    rcases Nat.lt_or_ge i l.length with hi | hi
    · rw [List.getElem?_append_left hi] at hb; exact hp i b hb
    · have hi2 : i = l.length := by
        have := (List.getElem?_eq_some_iff.1 hb).1
        simp at this; omega
      subst hi2
      have hb2 : a = b := by simpa using hb
      subst hb2
      rw [hl]; exact ha
theorem Opens.row {α : Type} {P : Program} {t e : TypeId} {d : Kd α} {G : α → Prop} {B : α → Nat} (ht : P.underlying t = some (.slice e)) (hO : Opens P e d G B) (hpos : 0 < P.cellsOf e)
    {H : Type} {enc : TypeId × Value → H} {w : World} {base : Nat} {spare : Nat → Bool} {held : Bool} {fuel : Nat} {cs : List Value} {x : DataW H × List MemPlace} (h : DataW.trod enc P w base spare held fuel t cs = some x) :
    ∃ (A : Option Addr) (c : Nat) (l : List α), cs = [.slice A l.length c] ∧ l.length ≤ c ∧ c ≤ maxLen ∧ Kd.C d w A l.length l ∧ (∀ a ∈ l, G a) ∧ (l.map B).sum + 1 ≤ Rows.uptoBulk x.1 ∧ (x.1 = .nil ∧ l = [] ∨ ∃ el sp, x.1 = .slice el sp ∧ el.length = l.length) := by
  rcases DataW.trod_slice ht h with ⟨rfl, rfl⟩ | ⟨a, len, cap, elems, rest, n, _, rfl, rfl, hb, hl, hm, hlen, hel, _, _⟩
  · exact ⟨none, 0, [], rfl, Nat.le_refl _, Nat.zero_le _, Kd.C_nil _ _, by simp, by simp [Rows.uptoBulk], Or.inl ⟨rfl, rfl⟩⟩
  · have each : ∀ i, i < len → ∃ a' : α, ∃ cs' y, w.cells? base (a.add (i * P.cellsOf e)) (P.cellsOf e) = some cs' ∧ elems[i]? = some y ∧ d.K w a' cs' ∧ G a' ∧ B a' ≤ Rows.uptoBulk y.1 := by
      intro i hi
      have h1 := hel i hi
      obtain ⟨y, hy⟩ : ∃ y, elems[i]? = some y := ⟨elems[i]'(by omega), List.getElem?_eq_getElem (by omega)⟩
      rw [hy, Option.bind_eq_some_iff] at h1
      obtain ⟨cs', hcs, htr⟩ := h1
      obtain ⟨a', hK, hG, hB⟩ := hO.2 htr
      exact ⟨a', cs', y, hcs, hy, hK, hG, hB⟩
    obtain ⟨l, hll, hp⟩ := list_of_each _ len each
    subst hll
    refine ⟨some a, cap, l, rfl, hl, hm, ⟨rfl, by unfold maxLen at hm; omega, fun _ => ⟨a, rfl, fun j p hj => ?_⟩⟩, ?_, ?_, Or.inr ⟨_, _, rfl, by simpa using hlen⟩⟩
    · obtain ⟨cs', y, hcs, _, hK, _, _⟩ := hp j p hj
      obtain ⟨_, hln, hc⟩ := World.cells?_some hcs
      refine ⟨cs', by rw [hln, hO.1], hK, fun i u hu => ?_⟩
      have hi : i < P.cellsOf e := by rw [← hln]; exact (List.getElem?_eq_some_iff.1 hu).1
      have := hc i hi
      rw [hu] at this
      rw [hO.1, ← this]
      congr 1
      have hs : a.spot = none := by
        have h0 := hc 0 hpos
        rw [List.getElem?_eq_getElem (by omega)] at h0
        cases hsp : a.spot with
        | none => rfl
        | some s =>
          rcases Nat.eq_zero_or_pos (j * P.cellsOf e) with hz | hz
          · rw [hz] at h0
            have : w.cell? a = some _ := h0
            unfold World.cell? at this
            rw [hsp] at this
            split at this <;> simp at this
          · have hl0 : 0 < l.length := by have := (List.getElem?_eq_some_iff.1 hj).1; omega
            obtain ⟨p0, hp0⟩ : ∃ p0, l[0]? = some p0 := ⟨l[0], List.getElem?_eq_getElem hl0⟩
            obtain ⟨cs0, y0, hcs0, _, _, _, _⟩ := hp 0 p0 hp0
            obtain ⟨_, hln0, hc0⟩ := World.cells?_some hcs0
            have h00 := hc0 0 hpos
            rw [List.getElem?_eq_getElem (by omega), Nat.zero_mul] at h00
            have : w.cell? a = some _ := h00
            unfold World.cell? at this
            rw [hsp] at this
            split at this <;> simp at this
      obtain ⟨b, o, s⟩ := a
      simp only at hs
      subst hs
      rw [add_at, add_at, add_at, Nat.add_assoc]
    · intro b hb
      obtain ⟨i, hi⟩ := List.getElem?_of_mem hb
      exact (hp i b hi).choose_spec.choose_spec.2.2.2.1
    · simp only [Rows.uptoBulk]
      have := bulk_len (elems.map (·.1)) (B := B) l (by simp [hlen]) (fun i b y hb hy => by
        obtain ⟨cs', y', _, hy', _, _, hB⟩ := hp i b hb
        rw [List.getElem?_map, hy'] at hy
        simp at hy
        subst hy
        exact hB)
      omega
theorem flat_fields {P : Program} {t : TypeId} {fs : Array Field} (ht : P.underlying t = some (.struct fs)) (hone : oneCellFields P fs = true) (hC : P.cellsOf t = fs.size)
    {H : Type} {enc : TypeId × Value → H} {w : World} {base : Nat} {spare : Nat → Bool} {held : Bool} {fuel : Nat} {cs : List Value} {x : DataW H × List MemPlace} (h : DataW.trod enc P w base spare held fuel t cs = some x) :
    ∃ (ys : List (DataW H × List MemPlace)) (n : Nat), cs.length = fs.size ∧ ys.length = fs.size ∧ x.1 = .agg (ys.map (·.1)) ∧ ∀ (i : Nat) (f : Field) (c : Value), fs[i]? = some f → cs[i]? = some c → DataW.trod enc P w base spare held n f.type [c] = ys[i]? := by
  obtain ⟨xs, n, _, rfl, hl, hlen, hf⟩ := DataW.trod_struct ht h
  refine ⟨xs, n, hl.trans hC, hlen, rfl, fun i f c hfi hc => ?_⟩
  have h1 := hf i f hfi
  obtain ⟨o0, k0⟩ := hone_of hone i f hfi
  rw [o0, k0] at h1
  rw [← h1]
  congr 1
  have hi := (List.getElem?_eq_some_iff.1 hc).1
  rw [List.drop_eq_getElem_cons hi, List.take_succ_cons, List.take_zero]
  rw [List.getElem?_eq_getElem hi] at hc
  simp at hc
  rw [hc]
end Go.Proofs.YtfkofbabeghgkaaGreat.Z
end

section
namespace Go.Proofs.YtfkofbabeghgkaaGreat.Z
open Go.ChangeShapes Go.WideShapes Go.ChangeAt Go.RowKit Go.Deep Go.Proofs.YtfkofbabeghgkaaGreatW.PrintWords
def G77 (x : S77) : Prop := x.f0.size ≤ maxLen ∧ x.f1.size ≤ maxLen
def B77 (x : S77) : Nat := (x.f0.size + 1) + (x.f1.size + 1) + 1
theorem opens77 : Opens Tryz.prog 77 k77 G77 B77 := by
  refine ⟨by kernel_rfl, fun {H enc w base spare held fuel cs x} h => ?_⟩
  obtain ⟨ys, n, hl, hy, hx, hf⟩ := flat_fields Tryz.underlying77 (by kernel_rfl) (by kernel_rfl) h
  match cs, hl with
  | [c0, c1], _ =>
    match ys, hy with
    | [y0, y1], _ =>
      obtain ⟨a0, k0, g0, b0⟩ := (Opens.string Tryz.underlying9 (by kernel_rfl)).2 (hf 0 _ c0 rfl rfl)
      obtain ⟨a1, k1, g1, b1⟩ := (Opens.string Tryz.underlying9 (by kernel_rfl)).2 (hf 1 _ c1 rfl rfl)
      refine ⟨⟨a0, a1⟩, ⟨[c0], [c1], rfl, k0, k1⟩, ⟨g0, g1⟩, ?_⟩
      rw [hx]
      simp only [Rows.uptoBulk, Rows.uptoBulkAll, List.map_cons, List.map_nil, B77]
      dsimp only at b0 b1
      omega
end Go.Proofs.YtfkofbabeghgkaaGreat.Z
end
