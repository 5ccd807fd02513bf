/- This session's own texts, laid together (a part that several claims share). -/
import Derived.Lib.Builder
import Derived.Test.YthbljhmjppjcjaaGreatDoorMB4
import Derived.Test.YthbljhmjppjcjaaGreatDoorMB1
import Derived.Laws.IdiomStrings
import Derived.StillTailTactics
import Derived.Test.YthbljhmjppjcjaaGreatDoorMB3
import Derived.Test.YthbljhmjppjcjaaGreatDoorRows
import Derived.Lib.SmallJoins
import Derived.Deep.Strs
import Derived.SizedLaws
import Derived.ChangeArms
section
/- (*strings.Builder).Write: bytes go behind what there is. -/
namespace Go.Proofs.YthbljhmjppjcjaaGreatDoor.Z
open Go.RowKit Go.Proofs.YthbljhmjppjcjaaGreatDoorW.PrintWords Go.Proofs.YthbljhmjppjcjaaGreatDoorW.PrintLast Go.Proofs.YthbljhmjppjcjaaGreatDoorW.PrintMore
set_option linter.unusedVariables false
set_option linter.unusedSimpArgs false
theorem size_bld : (Tryz.prog.info? 81).map (·.size) = some 2 := by kernel_rfl
theorem lies_bld : liesAt Tryz.prog Tryz.prog.depth 81 (2 / Tryz.prog.cellsOf 81) 0 81 1 = true := by kernel_rfl
set_option maxRecDepth 100000 in
theorem check_used (b : Nat) (w : World) (h0 : w.cell? ⟨b, 0, none⟩ = some (.pointer (some ⟨b, 0, none⟩))) :
    Calls Tryz.prog 62 #[.pointer (some ⟨b, 0, none⟩)] w fun e w' => e = .returned (.tuple #[]) ∧ w' = w := by
  obtain ⟨j, hj, _⟩ := Option.map_eq_some_iff.1 size_bld
  have hn := Lib.run_neq_ptr_same (P := Tryz.prog) w ⟨b, 0, none⟩ Tryz.underlying79 hj
  go_enter Tryz.func62, Tryz.ntmps62
  go_wp2
  go_end0
  exact ⟨rfl, rfl⟩
set_option maxRecDepth 100000 in
theorem check_fresh (b : Nat) (w : World) (h0 : w.cell? ⟨b, 0, none⟩ = some (.pointer none)) (hfz : w.frozen? ⟨b, 0, none⟩ = false) (hsh : w.shape? b = some (81, 2)) :
    Calls Tryz.prog 62 #[.pointer (some ⟨b, 0, none⟩)] w fun e w' => e = .returned (.tuple #[]) ∧ w' = w.setCell ⟨b, 0, none⟩ (.pointer (some ⟨b, 0, none⟩)) := by
  obtain ⟨j, hj, hjs⟩ := Option.map_eq_some_iff.1 size_bld
  have hto := Lib.run_to_unsafe (P := Tryz.prog) w ⟨b, 0, none⟩ Tryz.underlying79 Tryz.underlying179 hj (by rw [hjs]; decide) hsh (Nat.zero_lt_succ 1)
  have hfrom := Lib.run_from_unsafe (P := Tryz.prog) w ⟨b, 0, none⟩ Tryz.underlying179 Tryz.underlying79 hj hsh lies_bld
  have hcall := run_callFunc_extern (P := Tryz.prog) (w := w) (args := #[.pointer (some ⟨b, 0, none⟩)]) Tryz.func89 (by kernel_rfl) (by kernel_rfl) (by kernel_rfl) (e := Extern.AbiNoEscape.same) (by kernel_rfl)
  rw [Lib.run_noEscape] at hcall
  go_enter Tryz.func62, Tryz.ntmps62
  go_wp2
  go_end0
  exact ⟨rfl, rfl⟩
theorem bel_le {A B : Nat} {w w' : World} (h : Below A w w') (hle : B ≤ A) : Below B w w' := ⟨h.os, h.tape, h.output, h.size, fun k hk => h.block k (by omega)⟩
theorem check_calls (B b : Nat) (bs : List Value) (w : World) (h : Lib.IsBuilder 81 5 B b bs w) :
    Calls Tryz.prog 62 #[.pointer (some ⟨b, 0, none⟩)] w fun e w' => e = .returned (.tuple #[]) ∧ Lib.BuilderAt 81 5 B b (.pointer (some ⟨b, 0, none⟩)) bs w' ∧ Below B w w' ∧ KeepBut w w' b none := by
  rcases h with h | h
  · refine (check_fresh b w h.cell0 h.frozen0 h.shape).mono ?_
    rintro e w' ⟨rfl, rfl⟩
    exact ⟨rfl, h.used _, (Below.refl B w).setCell (p := ⟨b, 0, none⟩) h.1 _, (KeepBut.refl _ _ _).set_ 0 _⟩
  · refine (check_used b w h.cell0).mono ?_
    rintro e w' ⟨rfl, rfl⟩
    exact ⟨rfl, h, Below.refl B _, KeepBut.refl _ _ _⟩
def encB (b : UInt8) : Value := .int .u8 (b.toNat : Int)
abbrev kB : Kd UInt8 := Kd.scalar encB (fun _ => rfl)
theorem encs_B (l : List UInt8) : encs encB l = Lib.byteCells l := rfl
/-- Bytes in the middle of a row, read. -/
theorem bb_reads {W : World} {g : Nat} {l : List UInt8} (h : W.heap[g]? = some (bb l)) (lo n : Nat) (hn : lo + n ≤ l.length) (hm : n ≤ 9223372036854775807) : kB.C W (some ⟨g, lo, none⟩) n ((l.drop lo).take n) := by
  have hlen : ((l.drop lo).take n).length = n := by rw [List.length_take, List.length_drop]; omega
  refine ⟨hlen, hm, fun _ => ⟨_, rfl, fun j p hj => ⟨[encB p], rfl, rfl, fun i u hu => ?_⟩⟩⟩
  match i, hu with
  | 0, hu =>
    have hjn : j < n := by have := (List.getElem?_eq_some_iff.1 hj).1; omega
    rw [List.getElem?_take, if_pos hjn, List.getElem?_drop] at hj
    have hadd : (⟨g, lo, none⟩ : Addr).add (j * 1 + 0) = ⟨g, lo + j, none⟩ := by
      unfold Addr.add
      split <;> simp_all
    have hadd2 : (⟨g, lo, none⟩ : Addr).add (j * kB.sz + 0) = ⟨g, lo + j, none⟩ := hadd
    rw [hadd2, blk_cell h, List.getElem?_toArray]
    unfold Lib.byteCells
    rw [List.getElem?_map, hj]
    exact hu
set_option maxRecDepth 100000 in
set_option maxHeartbeats 3200000 in
theorem write_calls (B b : Nat) (bs q : List UInt8) (A : Option Addr) (c : Nat) (w : World) (h : Lib.IsBuilder 81 5 B b (Lib.byteCells bs) w) (hC : kB.C w A q.length q) (hA : ∀ ad, A = some ad → ad.block ≠ b ∧ ad.block < w.heap.size) (hlen : bs.length + q.length ≤ 140737488355328) (hBw : B ≤ w.heap.size) :
    Calls Tryz.prog 35 #[.pointer (some ⟨b, 0, none⟩), .slice A q.length c] w fun e w' => e = .returned (.tuple #[.int .i64 q.length, .nilIface]) ∧ Lib.BuilderAt 81 5 B b (.pointer (some ⟨b, 0, none⟩)) (Lib.byteCells (bs ++ q)) w' ∧ Below B w w' := by
  have HH := Aside0.mk h
  have HC := Aside0.mk hC
  have HL := Aside0.mk hlen
  have HW := Aside0.mk hBw
  clear h hC hlen hBw
  go_enter Tryz.func35, Tryz.ntmps35
  go_wp2_with (first
    | (go_at_call 62; refine (check_calls B b _ _ HH.out).mono ?_; rintro e w1 ⟨rfl, h1, hb1, hk1⟩; obtain ⟨hB, v, hbk, hown, hne⟩ := h1; have B1 := Aside0.mk hb1; have HBB := Aside0.mk hB; have K1 := Aside0.mk hbk; have O1 := Aside0.mk (show kB.R 5 w1 B (fun k => k ≠ b) v bs from Kd.R_of_own (by rw [Lib.byteCells_length] at hown; exact hown) (fun k hk e => hne (by rw [hk, e]))); have C1 := Aside0.mk (Kd.C_keep 0 HC.out hk1 (fun ad e _ => (hA ad e).1)); have LT := Aside0.mk (blk_lt hbk); have N1 := Aside0.mk hne; have c1 : w1.cell? ⟨b, 1, none⟩ = some v := (blk_cell hbk 1).trans rfl; clear hb1 hk1 hB hbk hown hne)
    | (at_builtin; refine Kd.R_append_row encB 0 (w0 := w) B rfl (.tmp 12) (.tmp 13) 58 5 (.int .u8 0) 1 rfl Tryz.underlying58 info_u8 rfl (by decide) v bs q A q.length c (fun k => k ≠ b) rfl rfl ?aF O1.out C1.out B1.out ?aS ?aL ?_; (case aF => exact (fun k hk => by have := LT.out; omega)); (case aS => exact Nat.le_trans HW.out B1.out.size); (case aL => have := HL.out; omega); intro v2 w2 ho hb hg hat; obtain ⟨A2, c2, rfl⟩ := Kd.R_slice ho; have O2 := Aside0.mk ho; have B2 := Aside0.mk hb; have K2 := Aside0.mk (blk_grown K1.out hg (fun e => N1.out e.symm)); have d1 : w2.cell? ⟨b, 1, none⟩ = some v := (blk_cell K2.out 1).trans rfl; have f1 : w2.frozen? ⟨b, 1, none⟩ = false := blk_frozen K2.out 1; clear ho hb hg hat c1))
  go_ret2
  refine ⟨rfl, Lib.BuilderAt.put HBB.out K2.out ?_ (by decide), B2.out.setCell (p := ⟨b, 1, none⟩) HBB.out _⟩
  have h := Kd.own_of_R O2.out
  rw [encs_B] at h
  rw [Lib.byteCells_length]
  rw [List.length_append] at h ⊢
  exact h
theorem writeN_calls (B b : Nat) (bs q : List UInt8) (A : Option Addr) (n c : Nat) (w : World) (hn : q.length = n) (h : Lib.IsBuilder 81 5 B b (Lib.byteCells bs) w) (hC : kB.C w A q.length q) (hA : ∀ ad, A = some ad → ad.block ≠ b ∧ ad.block < w.heap.size) (hlen : bs.length + q.length ≤ 140737488355328) (hBw : B ≤ w.heap.size) :
    Calls Tryz.prog 35 #[.pointer (some ⟨b, 0, none⟩), .slice A n c] w fun e w' => e = .returned (.tuple #[.int .i64 n, .nilIface]) ∧ Lib.BuilderAt 81 5 B b (.pointer (some ⟨b, 0, none⟩)) (Lib.byteCells (bs ++ q)) w' ∧ Below B w w' := by
  subst hn
  exact write_calls B b bs q A c w h hC hA hlen hBw
theorem bld_below {B b : Nat} {p : Value} {bs : List UInt8} {w w' : World} (h : Lib.BuilderAt 81 5 B b p (Lib.byteCells bs) w) (hb : Below w.heap.size w w') : Lib.BuilderAt 81 5 B b p (Lib.byteCells bs) w' := by
  obtain ⟨hB, v, hbk, hown, hne⟩ := h
  rw [Lib.byteCells_length] at hown
  refine ⟨hB, v, blk_below hbk hb, ?_, hne⟩
  have hR : kB.R 5 w B (fun _ => True) v bs := Kd.R_of_own hown (fun _ _ => trivial)
  have := Kd.own_of_R (Kd.R_below hR hb)
  rw [Lib.byteCells_length]
  exact this
theorem isB_below {B b : Nat} {bs : List UInt8} {w w' : World} (h : Lib.IsBuilder 81 5 B b (Lib.byteCells bs) w) (hb : Below w.heap.size w w') : Lib.IsBuilder 81 5 B b (Lib.byteCells bs) w' := h.imp (fun x => bld_below x hb) (fun x => bld_below x hb)
theorem isB_new {B b : Nat} {w : World} (hB : B ≤ b) (h : w.heap[b]? = some (.cells #[.pointer none, .slice none 0 0] 81 (0, 0))) : Lib.IsBuilder 81 5 B b (Lib.byteCells []) w :=
  by
  have h0 := Kd.own_of_R (xs := ([] : List UInt8)) (show (Kd.scalar encB (fun _ => rfl)).R 5 w B (fun _ => True) (.slice none 0 0) [] from Kd.R_nil kB 5 w B (fun _ => True))
  exact .inl ⟨hB, _, h, h0, by simp [Value.ownBlock]⟩
end Go.Proofs.YthbljhmjppjcjaaGreatDoor.Z
end

section
/- data.Read. -/
namespace Go.Proofs.YthbljhmjppjcjaaGreatDoor.Z
open Go.RowKit Go.Proofs.YthbljhmjppjcjaaGreatDoorW.PrintWords Go.Proofs.YthbljhmjppjcjaaGreatDoorW.PrintLast Go.Proofs.YthbljhmjppjcjaaGreatDoorW.PrintMore
attribute [local go_sem] max2_int min2_int max_two min_two max_three min_three max_four min_four
set_option linter.unusedVariables false
set_option linter.unusedSimpArgs false
/-- Bytes from a place on, chunk by chunk. -/
def readL (k : Nat) (ino : Int) (l : List IT) (e : Int) : Nat → Int → Int → List UInt8 → Option (List UInt8)
  | 0, _, _, _ => none
  | n + 1, p, c, acc => if p ≥ e then some acc else (bytesF k ino l c).bind fun b =>
    if 0 ≤ c ∧ c ≤ 65536 ∧ 0 ≤ p - c * 128 ∧ p - c * 128 < 128 ∧ p - c * 128 ≤ min e ((c + 1) * 128) - c * 128 ∧ acc.length ≤ 1048576 then readL k ino l e n (min e ((c + 1) * 128)) (c + 1) (acc ++ (b.drop (p - c * 128).toNat).take ((min e ((c + 1) * 128) - c * 128).toNat - (p - c * 128).toNat)) else none
theorem readL.mono (ino : Int) (l : List IT) (e : Int) : ∀ (n : Nat) (p c : Int) (acc : List UInt8) (k : Nat), LeO (readL k ino l e n p c acc) (readL (k + 1) ino l e n p c acc)
  | 0, p, c, acc, k => LeO.refl _
  | n + 1, p, c, acc, k => by
    unfold readL
    exact LeO.ite (LeO.refl _) (LeO.bind (bytesF.mono _ _ _ _) (fun b => LeO.ite (readL.mono ino l e n _ _ _ _) (LeO.refl _)))
def rck (why len : Int) : Int := if why = 0 ∧ len > 65536 then 1 else why
def data_Read.f (k : Nat) (l : List IT) (ino len off n : Int) : Option (ByteArray × Int) := if 0 ≤ len ∧ 0 ≤ off ∧ off < 4294967296 ∧ 0 ≤ n ∧ n < 4294967296 then ((openF k l ino).bind fun o => if rck o.2 len = 0 then (readL k ino o.1 (min len (off + n)) 600 off (off / 128) []).bind fun r => some (⟨r.toArray⟩, 0) else some (⟨#[]⟩, rck o.2 len)) else none
theorem data_Read.mono : ∀ (l : List IT) (ino len off n : Int) (k : Nat), LeO (data_Read.f k l ino len off n) (data_Read.f (k + 1) l ino len off n) := fun l ino len off n k => by
  unfold data_Read.f
  exact LeO.ite (LeO.bind (openF.mono _ _ _) (fun _ => LeO.ite (LeO.bind (readL.mono _ _ _ _ _ _ _ _) (fun _ => LeO.refl _)) (LeO.refl _))) (LeO.none _)
set_option maxRecDepth 100000 in
set_option maxHeartbeats 6400000 in
theorem read_ok_calls (k : Nat) (A : Option Addr) (cp : Nat) (l : List IT) (ino len off n : Int) (o1 : List IT) (r : List UInt8) (w : World) (hC : Kd.C k71 w A l.length l) (hc : l.length ≤ cp) (hl0 : 0 ≤ len) (hl1 : len ≤ 65536) (ho0 : 0 ≤ off) (ho1 : off < 4294967296) (hn0 : 0 ≤ n) (hn1 : n < 4294967296)
    (h1 : openF k l ino = some (o1, 0)) (h2 : readL k ino o1 (min len (off + n)) 600 off (off / 128) [] = some r) :
    Calls Tryz.prog 13 #[.slice A l.length cp, .int .u32 ino, .int .u32 len, .int .u32 off, .int .u32 n] w fun e w' => e = .returned (.tuple #[.string ⟨r.toArray⟩, .int .i64 0]) ∧ Below w.heap.size w w' := by
  have HC := Aside0.mk hC
  have HP := Aside0.mk hc
  have H1 := Aside0.mk h1
  have H2 := Aside0.mk h2
  have k0 : decide (len > 65536) = false := decide_eq_false (by omega)
  have e1 : IntKind.u64.wrap (off + n) = off + n := IntWalk.u64_in _ ⟨by omega, by omega⟩
  have e2 : IntKind.u64.wrap off = off := IntWalk.u64_in _ ⟨by omega, by omega⟩
  have e3 : IntKind.u64.wrap n = n := IntWalk.u64_in _ ⟨by omega, by omega⟩
  have e4 : IntKind.u64.wrap len = len := IntWalk.u64_in _ ⟨by omega, by omega⟩
  have e5 : IntKind.i64.wrap off = off := by rw [IntKind.wrap_i64]; omega
  obtain ⟨E, hE⟩ : ∃ E, E = min len (off + n) := ⟨_, rfl⟩
  have hmin : (if off + n < len then off + n else len) = E := by rw [hE]; split <;> omega
  have e6 : IntKind.i64.wrap E = E := by rw [IntKind.wrap_i64]; omega
  obtain ⟨c0, hc0⟩ : ∃ c0, c0 = off / 128 := ⟨_, rfl⟩
  have e7 : Int.tdiv off 128 = c0 := by rw [hc0]; exact Int.tdiv_eq_ediv_of_nonneg ho0
  have e8 : IntKind.i64.wrap c0 = c0 := by rw [IntKind.wrap_i64]; omega
  rw [← hE, ← hc0] at H2
  have HE := Aside0.mk (show E ≤ 65536 by omega)
  have HB := Aside0.mk (show 0 ≤ len ∧ len ≤ 65536 ∧ 0 ≤ off ∧ off < 4294967296 ∧ 0 ≤ n ∧ n < 4294967296 from ⟨hl0, hl1, ho0, ho1, hn0, hn1⟩)
  clear hC hc h1 h2 hl0 hl1 ho0 ho1 hn0 hn1 hE hc0
  go_enter Tryz.func13, Tryz.ntmps13
  go_wp2_with (first | (go_at_call 16; refine (open_calls k A cp l ino o1 0 _ HC.out HP.out H1.out).mono ?_; rintro e w1 ⟨g, A1, c1, rfl, hF, hg, hb⟩; have F1 := Aside0.mk hF; have B1 := Aside0.mk hb; clear hF hg hb) | ((with_reducible refine gate_dst (N := 14) rfl ?_); refine box_event ?hg (N := 14) ?hd (cs := #[.pointer none, .slice none 0 0]) (t := 81) ?hr ?_; (case hd => rfl); (case hg => rfl); (case hr => first | (go_simp; done) | (go_simp; rfl)); intro gb hgb w2 hx hb; have S2 := Aside0.mk (isB_new (Nat.le_of_eq hgb.symm) hx); have L2 := Aside0.mk hb; have F2 := Aside0.mk (F1.out.below hb); clear hx hb hgb))
  (try (refine wp_scope_post ?_; go_wp2_with (first | (go_at_call 16; refine (open_calls k A cp l ino o1 0 _ HC.out HP.out H1.out).mono ?_; rintro e w1 ⟨g, A1, c1, rfl, hF, hg, hb⟩; have F1 := Aside0.mk hF; have B1 := Aside0.mk hb; clear hF hg hb) | ((with_reducible refine gate_dst (N := 14) rfl ?_); refine box_event ?hg (N := 14) ?hd (cs := #[.pointer none, .slice none 0 0]) (t := 81) ?hr ?_; (case hd => rfl); (case hg => rfl); (case hr => first | (go_simp; done) | (go_simp; rfl)); intro gb hgb w2 hx hb; have S2 := Aside0.mk (isB_new (Nat.le_of_eq hgb.symm) hx); have L2 := Aside0.mk hb; have F2 := Aside0.mk (F1.out.below hb); clear hx hb hgb))))
  (try (go_step3; go_wp2_with (first | (go_at_call 16; refine (open_calls k A cp l ino o1 0 _ HC.out HP.out H1.out).mono ?_; rintro e w1 ⟨g, A1, c1, rfl, hF, hg, hb⟩; have F1 := Aside0.mk hF; have B1 := Aside0.mk hb; clear hF hg hb) | ((with_reducible refine gate_dst (N := 14) rfl ?_); refine box_event ?hg (N := 14) ?hd (cs := #[.pointer none, .slice none 0 0]) (t := 81) ?hr ?_; (case hd => rfl); (case hg => rfl); (case hr => first | (go_simp; done) | (go_simp; rfl)); intro gb hgb w2 hx hb; have S2 := Aside0.mk (isB_new (Nat.le_of_eq hgb.symm) hx); have L2 := Aside0.mk hb; have F2 := Aside0.mk (F1.out.below hb); clear hx hb hgb))))
  go_loopw [15, 17] (fun vp vc wr => ∃ (p c : Int) (m : Nat) (acc : List UInt8), vp = .int .i64 p ∧ vc = .int .i64 c ∧ Aside0 (Below w.heap.size w wr) ∧ Aside0 (FileAt wr g ino A1 c1 o1) ∧ Aside0 (Lib.IsBuilder 81 5 w1.heap.size gb (Lib.byteCells acc) wr) ∧ Aside0 (Below w1.heap.size w1 wr) ∧ Aside0 (m ≤ 600) ∧ Aside0 (readL k ino o1 E m p c acc = some r)) (fun _ vc _ => 65537 - (intOf vc).toNat)
  case atStart => exact ⟨off, c0, 600, [], rfl, rfl, ⟨below_step B1.out L2.out⟩, F2, S2, L2, ⟨Nat.le_refl _⟩, H2⟩
  case round =>
    obtain ⟨p, c, m, acc, rfl, rfl, HS, HF, HI, HL, HM, HR⟩ := hrel
    cases m with
    | zero => exact absurd HR.out (by simp [readL])
    | succ m =>
    have hR := HR.out
    rw [readL] at hR
    by_cases hp : p ≥ E
    · rw [if_pos hp] at hR
      obtain rfl := Option.some.inj hR
      have hpd : decide (p ≥ E) = true := decide_eq_true hp
      have hpd2 : decide (E ≤ p) = true := decide_eq_true hp
      clear hR hp HR
      go_wp2_with (go_at_call 36; refine (Tryz.Builder_String_any w1.heap.size gb acc _ HI.out HL.out.size).mono ?_; rintro e w9 ⟨rfl, hb⟩; have B9 := Aside0.mk hb; clear hb)
      go_ret2
      exact ⟨rfl, HS.out.trans (bel_le B9.out B1.out.size)⟩
    · rw [if_neg hp] at hR
      obtain ⟨b, hb, hR⟩ := Option.bind_eq_some_iff.mp hR
      split at hR
      case isFalse => cases hR
      case isTrue hc =>
      obtain ⟨hc0, hc1, hc2, hc128, hc3, hc4⟩ := hc
      have hpd : decide (p ≥ E) = false := decide_eq_false hp
      have hpd2 : decide (E ≤ p) = false := decide_eq_false hp
      have hbl : b.length = 128 := by
        unfold bytesF at hb
        obtain ⟨q, _, hq⟩ := Option.bind_eq_some_iff.mp hb
        rw [← Option.some.inj hq]
        exact padL_len _
      have hE1 := HE.out
      have x1 : IntKind.i64.wrap (c + 1) = c + 1 := by rw [IntKind.wrap_i64]; omega
      have x2 : IntKind.i64.wrap ((c + 1) * 128) = (c + 1) * 128 := by rw [IntKind.wrap_i64]; omega
      obtain ⟨u, hu⟩ : ∃ u, u = min E ((c + 1) * 128) := ⟨_, rfl⟩
      have x3 : (if (c + 1) * 128 < E then (c + 1) * 128 else E) = u := by
        rw [hu, Int.min_def]
        split <;> split <;> omega
      rw [← hu] at hR hc3
      have x4 : IntKind.i64.wrap (c * 128) = c * 128 := by rw [IntKind.wrap_i64]; omega
      obtain ⟨lo, hlo⟩ : ∃ lo, lo = p - c * 128 := ⟨_, rfl⟩
      obtain ⟨hi, hhi⟩ : ∃ hi, hi = u - c * 128 := ⟨_, rfl⟩
      have x5 : IntKind.i64.wrap (p - c * 128) = lo := by rw [IntKind.wrap_i64]; omega
      have x6 : IntKind.i64.wrap (u - c * 128) = hi := by rw [IntKind.wrap_i64]; omega
      rw [← hlo, ← hhi] at hR hc3
      rw [← hlo] at hc2 hc128
      have y0 : ((0 : Int) ≤ lo) = True := eq_true hc2
      have y1 : (lo ≤ hi) = True := eq_true hc3
      have y2 : (hi ≤ (128 : Int)) = True := eq_true (by omega)
      have y3 : ¬ 128 = lo.toNat := by omega
      have ql : ((b.drop lo.toNat).take (hi.toNat - lo.toNat)).length = hi.toNat - lo.toNat := by rw [List.length_take, List.length_drop]; omega
      have HQ := Aside0.mk ql
      have HBB := Aside0.mk hb
      have HBL := Aside0.mk hbl
      have HRR := Aside0.mk hR
      have HLH := Aside0.mk (show lo.toNat + (hi.toNat - lo.toNat) ≤ 128 by omega)
      have HA := Aside0.mk hc4
      have HCC := Aside0.mk (And.intro hc0 hc1)
      clear hR hb hp ql hbl hc0 hc1 hc2 hc128 hc3 hc4 hE1 hu hlo hhi HR
      go_wp2_with (first
        | (go_at_call 17; refine (bytes_calls k g ino c A1 c1 o1 b _ HF.out HBB.out).mono ?_; rintro e w5 ⟨gq, rfl, hgq, hbq, hb5⟩; have Q5 := Aside0.mk hbq; have B5 := Aside0.mk (below_step HS.out hb5); have L5 := Aside0.mk (below_step HL.out hb5); have I5 := Aside0.mk (isB_below HI.out hb5); have G5 := Aside0.mk (show gq ≠ gb ∧ gq < w5.heap.size from ⟨by have := HI.out; rcases this with h | h <;> (obtain ⟨_, _, h, _⟩ := h; have := blk_lt h; omega), blk_lt hbq⟩); clear hbq hb5 hgq)
        | (go_at_call 35; refine (writeN_calls w1.heap.size gb acc ((b.drop lo.toNat).take (hi.toNat - lo.toNat)) (some ⟨gq, lo.toNat, none⟩) (hi.toNat - lo.toNat) (128 - lo.toNat) _ HQ.out I5.out (by rw [HQ.out]; exact bb_reads Q5.out lo.toNat (hi.toNat - lo.toNat) (by rw [HBL.out]; exact HLH.out) (by have := HLH.out; omega)) (fun ad e => by injection e with e; subst e; exact G5.out) (by rw [HQ.out]; have := HA.out; have := HLH.out; omega) L5.out.size).mono ?_; rintro e w6 ⟨rfl, hI6, hb6⟩; have I6 := Aside0.mk hI6; have L6 := Aside0.mk (L5.out.trans hb6); have B6 := Aside0.mk (B5.out.trans (bel_le hb6 B1.out.size)); clear hI6 hb6))
      have hcc := HCC.out
      have hm := HM.out
      go_roundw
      case rel => exact ⟨u, c + 1, m, _, rfl, rfl, B6, ⟨F1.out.below L6.out⟩, ⟨.inr I6.out⟩, L6, ⟨by omega⟩, HRR⟩
      case measure =>
        simp [intOf]
        omega
set_option maxRecDepth 100000 in
set_option maxHeartbeats 3200000 in
theorem read_bad_calls (k : Nat) (A : Option Addr) (cp : Nat) (l : List IT) (ino len off n : Int) (o1 : List IT) (o2 : Int) (w : World) (hC : Kd.C k71 w A l.length l) (hc : l.length ≤ cp)
    (h1 : openF k l ino = some (o1, o2)) (h2 : ¬ rck o2 len = 0) :
    Calls Tryz.prog 13 #[.slice A l.length cp, .int .u32 ino, .int .u32 len, .int .u32 off, .int .u32 n] w fun e w' => e = .returned (.tuple #[.string ⟨#[]⟩, .int .i64 (rck o2 len)]) ∧ Below w.heap.size w w' := by
  have HC := Aside0.mk hC
  have HP := Aside0.mk hc
  by_cases c0 : o2 = 0
  · subst c0
    have c1 : len > 65536 := by
      unfold rck at h2
      rcases Decidable.em (len > 65536) with h | h
      · exact h
      · exact absurd (if_neg (fun h' => h h'.2)) h2
    have hk : rck 0 len = 1 := if_pos ⟨rfl, c1⟩
    rw [hk]
    have k1 : decide (len > 65536) = true := decide_eq_true c1
    have H1 := Aside0.mk h1
    clear hC hc h1 h2 c1 hk
    go_enter Tryz.func13, Tryz.ntmps13
    go_wp2_with (go_at_call 16; refine (open_calls k A cp l ino o1 0 _ HC.out HP.out H1.out).mono ?_; rintro e w1 ⟨g, A1, c1, rfl, hF, hg, hb⟩; have B1 := Aside0.mk hb; clear hF hg hb)
    (try (refine wp_scope_post ?_; go_wp2_with (go_at_call 16; refine (open_calls k A cp l ino o1 0 _ HC.out HP.out H1.out).mono ?_; rintro e w1 ⟨g, A1, c1, rfl, hF, hg, hb⟩; have B1 := Aside0.mk hb; clear hF hg hb)))
    (try (go_step3; go_wp2_with (go_at_call 16; refine (open_calls k A cp l ino o1 0 _ HC.out HP.out H1.out).mono ?_; rintro e w1 ⟨g, A1, c1, rfl, hF, hg, hb⟩; have B1 := Aside0.mk hb; clear hF hg hb)))
    go_ret2
    exact ⟨rfl, B1.out⟩
  · have hk : rck o2 len = o2 := if_neg (fun h => c0 h.1)
    rw [hk]
    have k1 : (o2 == 0) = false := beq_eq_false_iff_ne.2 c0
    have k2 : (o2 != 0) = true := bne_iff_ne.2 c0
    have H1 := Aside0.mk h1
    clear hC hc h1 h2 c0 hk
    go_enter Tryz.func13, Tryz.ntmps13
    go_wp2_with (go_at_call 16; refine (open_calls k A cp l ino o1 o2 _ HC.out HP.out H1.out).mono ?_; rintro e w1 ⟨g, A1, c1, rfl, hF, hg, hb⟩; have B1 := Aside0.mk hb; clear hF hg hb)
    (try (refine wp_scope_post ?_; go_wp2_with (go_at_call 16; refine (open_calls k A cp l ino o1 o2 _ HC.out HP.out H1.out).mono ?_; rintro e w1 ⟨g, A1, c1, rfl, hF, hg, hb⟩; have B1 := Aside0.mk hb; clear hF hg hb)))
    (try (go_step3; go_wp2_with (go_at_call 16; refine (open_calls k A cp l ino o1 o2 _ HC.out HP.out H1.out).mono ?_; rintro e w1 ⟨g, A1, c1, rfl, hF, hg, hb⟩; have B1 := Aside0.mk hb; clear hF hg hb)))
    go_ret2
    exact ⟨rfl, B1.out⟩
theorem data_Read.calls (k : Nat) (A0 : Option Addr) (c0 : Nat) (l0 : List S71) (a1 a2 a3 a4 : Int) (r1 : ByteArray) (r2 : Int) (w : World) (hr0 : Kd.C k71 w A0 l0.length l0) (hc0 : l0.length ≤ c0) (h : data_Read.f k l0 a1 a2 a3 a4 = some (r1, r2)) :
    Calls Tryz.prog 13 #[.slice A0 l0.length c0, .int .u32 a1, .int .u32 a2, .int .u32 a3, .int .u32 a4] w fun e w' => e = .returned (.tuple #[.string r1, .int .i64 r2]) ∧ Below w.heap.size w w' := by
  unfold data_Read.f at h
  split at h
  case isFalse => cases h
  case isTrue hr =>
  obtain ⟨⟨o1, o2⟩, h1, h⟩ := Option.bind_eq_some_iff.mp h
  by_cases hk : rck o2 a2 = 0
  · rw [if_pos hk] at h
    obtain ⟨r, h2, h⟩ := Option.bind_eq_some_iff.mp h
    have h3 := Option.some.inj h
    simp only [Prod.mk.injEq] at h3
    obtain ⟨rfl, rfl⟩ := h3
    obtain ⟨rfl, hl⟩ : o2 = 0 ∧ a2 ≤ 65536 := by
      unfold rck at hk
      split at hk
      · omega
      · omega
    exact read_ok_calls k A0 c0 l0 a1 a2 a3 a4 o1 r w hr0 hc0 hr.1 hl hr.2.1 hr.2.2.1 hr.2.2.2.1 hr.2.2.2.2 h1 h2
  · rw [if_neg hk] at h
    have h3 := Option.some.inj h
    simp only [Prod.mk.injEq] at h3
    obtain ⟨rfl, rfl⟩ := h3
    exact read_bad_calls k A0 c0 l0 a1 a2 a3 a4 o1 o2 w hr0 hc0 h1 hk
end Go.Proofs.YthbljhmjppjcjaaGreatDoor.Z
end

section
/- data.Write. -/
namespace Go.Proofs.YthbljhmjppjcjaaGreatDoor.Z
open Go.RowKit Go.Proofs.YthbljhmjppjcjaaGreatDoorW.PrintWords Go.Proofs.YthbljhmjppjcjaaGreatDoorW.PrintLast Go.Proofs.YthbljhmjppjcjaaGreatDoorW.PrintMore
set_option linter.unusedVariables false
set_option linter.unusedSimpArgs false
abbrev CH := S41
theorem info_Change : (Tryz.prog.info? 41).map (fun i => (i.zero, i.size, i.bytes)) = some (some (.agg #[.string ⟨#[]⟩, .bool false, .string ⟨#[]⟩]), 3, 40) := by kernel_rfl
/-- Bytes to a place on, chunk by chunk. -/
def writeL (k : Nat) (ino : Int) (l : List IT) : Nat → Int → ByteArray → List CH → Option (List CH)
  | 0, _, _, _ => none
  | n + 1, p, s, acc => if s.toList = [] then some acc else (bytesF k ino l (p / 128)).bind fun b =>
    if 0 ≤ p ∧ p < 65536 ∧ s.size ≤ 65536 then (keepF k ino l (p / 128) ⟨(over b s.data.toList (p % 128).toNat (128 - (p % 128).toNat)).toArray⟩).bind fun cs =>
      if acc.length + cs.length ≤ 1048576 then writeL k ino l n (p + (min s.size (128 - (p % 128).toNat) : Nat)) (s.extract (min s.size (128 - (p % 128).toNat)) s.size) (acc ++ cs) else none
    else none
theorem writeL.mono (ino : Int) (l : List IT) : ∀ (n : Nat) (p : Int) (s : ByteArray) (acc : List CH) (k : Nat), LeO (writeL k ino l n p s acc) (writeL (k + 1) ino l n p s acc)
  | 0, p, s, acc, k => LeO.refl _
  | n + 1, p, s, acc, k => by
    unfold writeL
    exact LeO.ite (LeO.refl _) (LeO.bind (bytesF.mono _ _ _ _) (fun b => LeO.ite (LeO.bind (keepF.mono _ _ _ _ _) (fun cs => LeO.ite (writeL.mono ino l n _ _ _ _) (LeO.refl _))) (LeO.refl _)))
theorem bb_conv {W : World} {g : Nat} {l : List UInt8} (h : W.heap[g]? = some (bb l)) (n c : Nat) (hn : l.length = n) :
    (convert 58 9 (.slice (some ⟨g, 0, none⟩) n c)).run Tryz.prog W = .ok (.string ⟨l.toArray⟩) W := by
  subst hn
  refine run_convert_bytes_back W _ _ 5 ⟨g, 0, none⟩ c l Tryz.underlying58 Tryz.underlying5 Tryz.underlying9 (fun j hj => ?_)
  have hadd : (⟨g, 0, none⟩ : Addr).add j = ⟨g, j, none⟩ := by
    unfold Addr.add
    split <;> simp_all
  rw [hadd, blk_cell h, List.getElem?_toArray]
  unfold Lib.byteCells
  rw [List.getElem?_map, List.getElem?_eq_getElem hj]
  rfl
/-- A row of the call's own, where another block is told anew. -/
theorem own_setRow {w : World} {base g t : Nat} {v : Value} {xs : List CH} {cs cs' : Array Value} (h : k41.R 41 w base (fun _ => True) v xs) (hb : w.heap[g]? = some (.cells cs t (0, 0))) (ht : 41 ≠ t) : k41.R 41 (w.setRow g cs') base (fun _ => True) v xs := by
  have h1 := Kd.R_types h hb (by
    intro q hq
    rw [show k41.E = [] from rfl] at hq
    simp at hq
    subst hq
    exact ht)
  exact Kd.R_mono (Kd.R_step h1 (fun k hk _ => by
    simp only [World.setRow, Array.getElem?_modify]
    rw [if_neg (fun e => hk.2 e.symm)])) (fun _ _ => trivial)
def wk (why off : Int) (n : Nat) : Int := if why = 0 ∧ off + n > 65536 then 1 else why
def data_Write.f (k : Nat) (l : List IT) (ino off : Int) (s : ByteArray) : Option (List CH × Int) := if 0 ≤ off ∧ off < 4294967296 ∧ s.size ≤ 9223372036854775807 then ((openF k l ino).bind fun o => if wk o.2 off s.size = 0 then (writeL k ino o.1 70000 off s []).bind fun r => some (r, 0) else some ([], wk o.2 off s.size)) else none
theorem data_Write.mono : ∀ (l : List IT) (ino off : Int) (s : ByteArray) (k : Nat), LeO (data_Write.f k l ino off s) (data_Write.f (k + 1) l ino off s) := fun l ino off s k => by
  unfold data_Write.f
  exact LeO.ite (LeO.bind (openF.mono _ _ _) (fun _ => LeO.ite (LeO.bind (writeL.mono _ _ _ _ _ _ _) (fun _ => LeO.refl _)) (LeO.refl _))) (LeO.none _)
set_option maxRecDepth 100000 in
set_option maxHeartbeats 6400000 in
theorem write_ok_calls (k : Nat) (A : Option Addr) (cp : Nat) (l : List IT) (ino off : Int) (s : ByteArray) (o1 : List IT) (r : List CH) (w : World) (hC : Kd.C k71 w A l.length l) (hc : l.length ≤ cp) (ho0 : 0 ≤ off) (hs : off + s.size ≤ 65536)
    (h1 : openF k l ino = some (o1, 0)) (h2 : writeL k ino o1 70000 off s [] = some r) :
    Calls Tryz.prog 5 #[.slice A l.length cp, .int .u32 ino, .int .u32 off, .string s] w fun e w' => ∃ v, e = .returned (.tuple #[v, .int .i64 0]) ∧ k41.R 41 w' w.heap.size (fun _ => True) v r ∧ Below w.heap.size w w' := by
  have HC := Aside0.mk hC
  have HP := Aside0.mk hc
  have H1 := Aside0.mk h1
  have H2 := Aside0.mk h2
  have e1 : IntKind.u64.wrap off = off := IntWalk.u64_in _ ⟨by omega, by omega⟩
  have e2 : IntKind.u64.wrap (s.size : Int) = s.size := IntWalk.u64_in _ ⟨by omega, by omega⟩
  have e3 : IntKind.u64.wrap (off + s.size) = off + s.size := IntWalk.u64_in _ ⟨by omega, by omega⟩
  have e4 : decide (off + s.size > 65536) = false := decide_eq_false (by omega)
  have e5 : IntKind.i64.wrap off = off := by rw [IntKind.wrap_i64]; omega
  have HO := Aside0.mk (And.intro ho0 hs)
  clear hC hc h1 h2 ho0 hs
  go_enter Tryz.func5, Tryz.ntmps5
  go_wp2_with (go_at_call 16; refine (open_calls k A cp l ino o1 0 _ HC.out HP.out H1.out).mono ?_; rintro e w1 ⟨g, A1, c1, rfl, hF, hg, hb⟩; have F1 := Aside0.mk hF; have B1 := Aside0.mk hb; clear hF hg hb)
  go_loopw [3, 12, 13] (fun vs vo vp wr => ∃ (p : Int) (m : Nat) (q : ByteArray) (acc : List CH), vs = .string q ∧ vp = .int .i64 p ∧ Aside0 (k41.R 41 wr w1.heap.size (fun _ => True) vo acc) ∧ Aside0 (Below w1.heap.size w1 wr) ∧ Aside0 (writeL k ino o1 m p q acc = some r)) (fun vs _ _ _ => match vs with | .string b => b.size | _ => 0)
  case atStart => exact ⟨off, 70000, s, [], rfl, rfl, ⟨Kd.R_nil _ _ _ _ _⟩, ⟨Below.refl _ _⟩, H2⟩
  case round =>
    obtain ⟨p, m, q, acc, rfl, rfl, HA, HL, HR⟩ := hrel
    cases m with
    | zero => exact absurd HR.out (by simp [writeL])
    | succ m =>
    have hR := HR.out
    rw [writeL] at hR
    by_cases hq : q.toList = []
    · rw [if_pos hq] at hR
      obtain rfl := Option.some.inj hR
      have hqe : q.toList.isEmpty = true := by rw [hq]; rfl
      clear hR hq HR
      go_wp2
      go_ret2
      exact ⟨_, rfl, Kd.R_lower HA.out B1.out.size, B1.out.trans (bel_le HL.out B1.out.size)⟩
    · rw [if_neg hq] at hR
      obtain ⟨A0, c0, hv⟩ := Kd.R_slice HA.out
      subst hv
      have hqe : q.toList.isEmpty = false := by
        cases h : q.toList with
        | nil => exact absurd h hq
        | cons _ _ => rfl
      obtain ⟨b, hb, hR⟩ := Option.bind_eq_some_iff.mp hR
      split at hR
      case isFalse => cases hR
      case isTrue hc =>
      obtain ⟨hc0, hc1, hc2⟩ := hc
      obtain ⟨cs, hcs, hR⟩ := Option.bind_eq_some_iff.mp hR
      split at hR
      case isFalse => cases hR
      case isTrue hlen =>
      have hbl : b.length = 128 := by
        unfold bytesF at hb
        obtain ⟨x, _, hx⟩ := Option.bind_eq_some_iff.mp hb
        rw [← Option.some.inj hx]
        exact padL_len _
      obtain ⟨c, hc⟩ : ∃ c, c = p / 128 := ⟨_, rfl⟩
      obtain ⟨lo, hlo⟩ : ∃ lo, lo = p % 128 := ⟨_, rfl⟩
      obtain ⟨mm, hmm⟩ : ∃ mm, mm = min q.size (128 - lo.toNat) := ⟨_, rfl⟩
      have x1 : Int.tdiv p 128 = c := by rw [hc]; exact Int.tdiv_eq_ediv_of_nonneg hc0
      have x2 : IntKind.i64.wrap c = c := by rw [IntKind.wrap_i64]; omega
      have x3 : IntKind.i64.wrap (c * 128) = c * 128 := by rw [IntKind.wrap_i64]; omega
      have x4 : IntKind.i64.wrap (p - c * 128) = lo := by rw [IntKind.wrap_i64]; omega
      have x5 : IntKind.i64.wrap (p + (mm : Int)) = p + (mm : Int) := by rw [IntKind.wrap_i64]; omega
      have y0 : ((0 : Int) ≤ lo) = True := eq_true (by omega)
      have y1 : (lo ≤ (128 : Int)) = True := eq_true (by omega)
      have y2 : ¬ 128 = lo.toNat := by omega
      have z0 : ((0 : Int) ≤ (mm : Int)) = True := eq_true (by omega)
      have z1 : ((mm : Int) ≤ (q.size : Int)) = True := eq_true (by omega)
      rw [← hc] at hb hcs
      rw [← hlo] at hcs hR
      rw [← hmm] at hR
      have hol : (over b q.data.toList lo.toNat (128 - lo.toNat)).length = 128 := by rw [over_len _ _ _ _ (by rw [hbl]; omega), hbl]
      have HOL := Aside0.mk hol
      have HBB := Aside0.mk hb
      have HBL := Aside0.mk hbl
      have HCS := Aside0.mk hcs
      have HRR := Aside0.mk hR
      have HMM := Aside0.mk hmm
      have HLN := Aside0.mk hlen
      have HLO := Aside0.mk (show lo.toNat < 128 by omega)
      have HQ := Aside0.mk (show 0 < q.size by
        rcases Nat.eq_zero_or_pos q.size with h | h
        · exfalso
          apply hq
          rw [ByteArray.toList_eq]
          have : q.data.toList.length = 0 := by rw [Array.length_toList]; exact h
          exact List.length_eq_zero_iff.1 this
        · exact h)
      clear hR hb hcs hq hbl hc0 hc1 hc2 hlen hc hlo hmm HR hol
      go_wp2_with (first
        | (go_at_call 17; refine (bytes_calls k g ino c A1 c1 o1 b _ (F1.out.below HL.out) HBB.out).mono ?_; rintro e w5 ⟨gq, rfl, hgq, hbq, hb5⟩; have Q5 := Aside0.mk hbq; have A5 := Aside0.mk (Kd.R_below HA.out hb5); have L5 := Aside0.mk (below_step HL.out hb5); have G5 := Aside0.mk (show w1.heap.size ≤ gq from Nat.le_trans HL.out.size hgq); clear hbq hb5 hgq)
        | (refine copy_event rfl (.tmp 51) (.tmp 52) 58 9 5 rfl Tryz.underlying58 size_u8 gq lo.toNat (128 - lo.toNat) (128 - lo.toNat) rfl q rfl _ 5 Q5.out (by have := HBL.out; have := HLO.out; simp [Lib.byteCells]; omega) ?_; rw [← HMM.out]; generalize hw6 : World.setRow w5 gq _ = w6; have Q6 := Aside0.mk (show w6.heap[gq]? = some (bb (over b q.data.toList lo.toNat (128 - lo.toNat))) by rw [← hw6, HMM.out]; exact bb_copy Q5.out q lo.toNat (128 - lo.toNat)); have A6 := Aside0.mk (show k41.R 41 w6 w1.heap.size (fun _ => True) (.slice A0 acc.length c0) acc by rw [← hw6]; exact own_setRow A5.out Q5.out (by decide)); have L6 := Aside0.mk (show Below w1.heap.size w1 w6 by rw [← hw6]; exact below_setRow L5.out G5.out _); have cv := bb_conv Q6.out 128 128 HOL.out; clear hw6)
        | (go_at_call 18; refine (keep_calls k g ino c _ A1 c1 o1 cs _ (F1.out.below L6.out) HCS.out).mono ?_; rintro e w7 ⟨v7, rfl, ho7, hb7⟩; have A7 := Aside0.mk (Kd.R_below A6.out hb7); have R7 := Aside0.mk ho7; have L7 := Aside0.mk (below_step L6.out hb7); obtain ⟨A8, c8, rfl⟩ := Kd.R_slice ho7; clear ho7 hb7 cv)
        | (at_builtin; refine Kd.R_append_rows k41 (w0 := w1) w1.heap.size rfl (.tmp 54) (.tmp 59) 24 41 (.agg #[.string ⟨#[]⟩, .bool false, .string ⟨#[]⟩]) 40 rfl Tryz.underlying24 info_Change rfl (by decide) (by omega) (.slice A0 acc.length c0) acc cs _ _ _ (fun _ => True) (fun _ => False) rfl rfl ?aO ?aR (fun _ _ h => h) (fun _ h => h.elim) ?aF ?aB ?aS ?aL ?_; (case aR => exact (Kd.R_reads' R7.out).2.2); (case aB => exact L7.out); (case aF => exact (fun _ _ => trivial)); (case aO => exact A7.out); (case aS => exact L7.out.size); (case aL => have := HLN.out; omega); intro v9 w9 ho hb hg hat; have A9 := Aside0.mk ho; have L9 := Aside0.mk hb; clear ho hb hg hat))
      refine wp_region_still_lit (by kernel_rfl) (by kernel_rfl) ?_
      repeat still_step
      refine wpStill_nil ?_
      change Exit.inBlock _ _ _ _ w9.drew
      go_wp2
      have hmm := HMM.out
      have hq := HQ.out
      have hlo := HLO.out
      go_roundw
      case rel => exact ⟨p + (mm : Int), m, _, acc ++ cs, rfl, rfl, ⟨Kd.R_drew A9.out⟩, ⟨below_drew1 L9.out⟩, HRR⟩
      case measure =>
        show (q.extract mm q.size).size < q.size
        rw [ByteArray.size_extract]
        omega
set_option maxRecDepth 100000 in
set_option maxHeartbeats 3200000 in
theorem write_bad_calls (k : Nat) (A : Option Addr) (cp : Nat) (l : List IT) (ino off : Int) (s : ByteArray) (o1 : List IT) (o2 : Int) (w : World) (hC : Kd.C k71 w A l.length l) (hc : l.length ≤ cp) (ho0 : 0 ≤ off) (ho1 : off < 4294967296) (hs : s.size ≤ 9223372036854775807)
    (h1 : openF k l ino = some (o1, o2)) (h2 : ¬ wk o2 off s.size = 0) :
    Calls Tryz.prog 5 #[.slice A l.length cp, .int .u32 ino, .int .u32 off, .string s] w fun e w' => e = .returned (.tuple #[.slice none 0 0, .int .i64 (wk o2 off s.size)]) ∧ Below w.heap.size w w' := by
  have HC := Aside0.mk hC
  have HP := Aside0.mk hc
  by_cases c0 : o2 = 0
  · subst c0
    have c1 : off + s.size > 65536 := by
      unfold wk at h2
      rcases Decidable.em (off + s.size > 65536) with h | h
      · exact h
      · exact absurd (if_neg (fun h' => h h'.2)) h2
    have hk : wk 0 off s.size = 1 := if_pos ⟨rfl, c1⟩
    rw [hk]
    have e1 : IntKind.u64.wrap off = off := IntWalk.u64_in _ ⟨by omega, by omega⟩
    have e2 : IntKind.u64.wrap (s.size : Int) = s.size := IntWalk.u64_in _ ⟨by omega, by omega⟩
    have e3 : IntKind.u64.wrap (off + s.size) = off + s.size := IntWalk.u64_in _ ⟨by omega, by omega⟩
    have k1 : decide (off + s.size > 65536) = true := decide_eq_true c1
    have H1 := Aside0.mk h1
    clear hC hc h1 h2 c1 hk ho0 ho1 hs
    go_enter Tryz.func5, Tryz.ntmps5
    go_wp2_with (go_at_call 16; refine (open_calls k A cp l ino o1 0 _ HC.out HP.out H1.out).mono ?_; rintro e w1 ⟨g, A1, c1, rfl, hF, hg, hb⟩; have B1 := Aside0.mk hb; clear hF hg hb)
    go_ret2
    exact ⟨rfl, B1.out⟩
  · have hk : wk o2 off s.size = o2 := if_neg (fun h => c0 h.1)
    rw [hk]
    have k1 : (o2 == 0) = false := beq_eq_false_iff_ne.2 c0
    have k2 : (o2 != 0) = true := bne_iff_ne.2 c0
    have H1 := Aside0.mk h1
    clear hC hc h1 h2 c0 hk ho0 ho1 hs
    go_enter Tryz.func5, Tryz.ntmps5
    go_wp2_with (go_at_call 16; refine (open_calls k A cp l ino o1 o2 _ HC.out HP.out H1.out).mono ?_; rintro e w1 ⟨g, A1, c1, rfl, hF, hg, hb⟩; have B1 := Aside0.mk hb; clear hF hg hb)
    go_ret2
    exact ⟨rfl, B1.out⟩
theorem data_Write.calls (k : Nat) (A0 : Option Addr) (c0 : Nat) (l0 : List S71) (a1 a2 : Int) (a3 : ByteArray) (r1 : List S41) (r2 : Int) (w : World) (hr0 : Kd.C k71 w A0 l0.length l0) (hc0 : l0.length ≤ c0) (h : data_Write.f k l0 a1 a2 a3 = some (r1, r2)) :
    Calls Tryz.prog 5 #[.slice A0 l0.length c0, .int .u32 a1, .int .u32 a2, .string a3] w fun e w' => ∃ v0_ : Value, e = .returned (.tuple #[v0_, .int .i64 r2]) ∧ Kd.R k41 41 w' w.heap.size (fun _ => True) v0_ r1 ∧ Below w.heap.size w w' := by
  unfold data_Write.f at h
  split at h
  case isFalse => cases h
  case isTrue hr =>
  obtain ⟨⟨o1, o2⟩, h1, h⟩ := Option.bind_eq_some_iff.mp h
  by_cases hk : wk o2 a2 a3.size = 0
  · rw [if_pos hk] at h
    obtain ⟨r, h2, h⟩ := Option.bind_eq_some_iff.mp h
    have h3 := Option.some.inj h
    simp only [Prod.mk.injEq] at h3
    obtain ⟨rfl, rfl⟩ := h3
    obtain ⟨rfl, hl⟩ : o2 = 0 ∧ a2 + a3.size ≤ 65536 := by
      unfold wk at hk
      split at hk
      · omega
      · omega
    exact write_ok_calls k A0 c0 l0 a1 a2 a3 o1 r w hr0 hc0 hr.1 hl h1 h2
  · rw [if_neg hk] at h
    have h3 := Option.some.inj h
    simp only [Prod.mk.injEq] at h3
    obtain ⟨rfl, rfl⟩ := h3
    exact (write_bad_calls k A0 c0 l0 a1 a2 a3 o1 o2 w hr0 hc0 hr.1 hr.2.1 hr.2.2 h1 hk).mono (fun e w' he => ⟨_, he.1, Kd.R_nil _ _ _ _ _, he.2⟩)
end Go.Proofs.YthbljhmjppjcjaaGreatDoor.Z
end

section
/- data: Read, Write, Cut. -/
end

section
/- Chunks of an inode among items: bytes by their place, what changes make of them. -/
namespace Go.Proofs.YthbljhmjppjcjaaGreatDoor.Z
open Go.RowKit Go.Proofs.YthbljhmjppjcjaaGreatDoorW.PrintWords Go.Proofs.YthbljhmjppjcjaaGreatDoorW.PrintLast Go.Proofs.YthbljhmjppjcjaaGreatDoorW.PrintMore Go.Proofs.YthbljhmjppjcjaaGreatDoor.PM
set_option linter.unusedVariables false
set_option linter.unusedSimpArgs false
/-! ### Keys of chunks -/
def kc (ino : Int) (c : Nat) : List UInt8 := keyL 3 ino [] (c : Int)
theorem kc_eq (ino : Int) (c : Nat) : kc ino c = (99 :: be 4 ino.toNat) ++ be 4 c := rfl
theorem pre_eq (ino : Int) : prefL 3 ino = 99 :: be 4 ino.toNat := rfl
theorem kc_right {ino : Int} {c : Nat} (hi : 0 < ino) (hc : c < 512) : rightK 3 ino [] (c : Int) = true := decide_eq_true ⟨hi, .inr (.inr ⟨rfl, rfl, by omega⟩)⟩
theorem kc_pars {ino : Int} {c : Nat} (hi : 0 < ino ∧ ino < 4294967296) (hc : c < 512) : parsS (kc ino c) = (3, ino, [], (c : Int), 0) := pars_key (kc_right hi.1 hc) ⟨by omega, hi.2⟩ (by omega)
theorem kc_inj {i i' : Int} {c c' : Nat} (hi : 0 < i ∧ i < 4294967296) (hi' : 0 < i' ∧ i' < 4294967296) (hc : c < 512) (hc' : c' < 512) (h : kc i c = kc i' c') : i = i' ∧ c = c' := by
  have h1 := kc_pars hi hc
  rw [h, kc_pars hi' hc'] at h1
  simp only [Prod.mk.injEq] at h1
  omega
theorem kc_pre (ino : Int) (c : Nat) : (prefL 3 ino).isPrefixOf (kc ino c) = true := by
  rw [List.isPrefixOf_iff_prefix]
  exact ⟨be 4 c, rfl⟩
theorem kc_less (ino : Int) {c d : Nat} (hc : c < 512) (hd : d < 512) : Op.bytesLess (kc ino c) (kc ino d) = decide (c < d) := by
  rw [kc_eq, kc_eq, bl_pre, be_less 4 c d (by rw [p4]; omega) (by rw [p4]; omega)]
theorem kc_len {ino : Int} {c : Nat} (hi : 0 < ino) (hc : c < 512) : 5 ≤ (kc ino c).length ∧ (kc ino c).length ≤ 48 := key_len (kc_right hi hc)
def xokP (k : List UInt8) : Bool := (parsS k).2.2.2.2 == 0
def isK (ino : Int) (k : List UInt8) : Bool := xokP k && (prefL 3 ino).isPrefixOf k
theorem isK_iff {ino : Int} (hi : 0 < ino ∧ ino < 4294967296) (k : List UInt8) : isK ino k = true ↔ ∃ c, c < 512 ∧ k = kc ino c := by
  constructor
  · intro h
    unfold isK at h
    obtain ⟨hp, hq⟩ := Bool.and_eq_true_iff.1 h
    obtain ⟨r, hr⟩ := List.isPrefixOf_iff_prefix.1 hq
    obtain ⟨⟨a, b, nm, c, e⟩, hx⟩ : ∃ x, x = parsS k := ⟨_, rfl⟩
    have he : e = 0 := by
      unfold xokP at hp
      rw [← hx] at hp
      simpa using hp
    obtain ⟨h1, h2, h3, h4⟩ := key_pars hx.symm he
    have hl := lett_ne h1
    obtain ⟨q1, q2, _, _⟩ := key_parts (nm := nm) (c := c) hl h3
    rw [h2, ← hr, pre_eq] at q1 q2
    have g1e : g1 ((99 :: be 4 ino.toNat) ++ r) = 3 := rfl
    have g2e : g2 ((99 :: be 4 ino.toNat) ++ r) = ino := by
      unfold g2
      rw [List.cons_append, List.drop_one, List.tail_cons, tk (be_len _ _), num_be 4 _ (by rw [p4]; omega)]
      omega
    rw [g1e] at q1
    rw [g2e] at q2
    subst q1
    subst q2
    have h5 := h1
    unfold rightK at h5
    have h6 := (of_decide_eq_true h5).2
    have h7 : nm = [] ∧ c < 512 := by
      rcases h6 with h6 | h6 | h6
      · exact absurd h6.1 (by decide)
      · rcases h6.1 with h6 | h6 <;> exact absurd h6 (by decide)
      · exact h6.2
    obtain ⟨rfl, h7⟩ := h7
    refine ⟨c.toNat, by omega, ?_⟩
    unfold kc
    rw [Int.toNat_of_nonneg h4, h2]
  · rintro ⟨c, hc, rfl⟩
    unfold isK xokP
    rw [kc_pars hi hc, kc_pre]
    rfl
/-! ### An inode's items -/
def own (l : List It) (ino : Int) : List It := (l.filter (hp (prefL 3 ino))).filter (fun x => xokP (key x))
theorem own_eq (l : List It) (ino : Int) : own l ino = l.filter (fun x => isK ino (key x)) := by
  unfold own
  rw [List.filter_filter]
  rfl
theorem look_filter (f : List UInt8 → Bool) (k : List UInt8) : ∀ l : List It, look (l.filter (fun x => f (key x))) k = if f k = true then look l k else none
  | [] => by simp [look]
  | x :: l => by
    have ih := look_filter f k l
    by_cases hx : f (key x) = true
    · rw [List.filter_cons_of_pos (p := fun x => f (key x)) hx, look_cons, look_cons, ih]
      by_cases hk : key x = k
      · rw [if_pos hk, if_pos hk, if_pos (hk ▸ hx)]
      · rw [if_neg hk, if_neg hk]
    · rw [List.filter_cons_of_neg (p := fun x => f (key x)) hx, ih, look_cons]
      by_cases hk : key x = k
      · rw [if_neg (fun h => hx (hk ▸ h)), if_neg (fun h => hx (hk ▸ h))]
      · rw [if_neg hk]
theorem own_look {ino : Int} (hi : 0 < ino ∧ ino < 4294967296) (l : List It) {c : Nat} (hc : c < 512) : look (own l ino) (kc ino c) = look l (kc ino c) := by
  rw [own_eq, look_filter (isK ino), if_pos ((isK_iff hi _).2 ⟨c, hc, rfl⟩)]
theorem own_asc {l : List It} (ha : Asc l) (ino : Int) : Asc (own l ino) := by
  rw [own_eq]
  exact List.Pairwise.filter _ ha
theorem own_mem {l : List It} {ino : Int} {x : It} (h : x ∈ own l ino) : x ∈ l ∧ isK ino (key x) = true := by
  rw [own_eq] at h
  exact List.mem_filter.1 h
theorem own_len0 {ino : Int} : ∀ (L : List It) (a : Nat), Asc L → (∀ x ∈ L, ∃ c, a ≤ c ∧ c < 512 ∧ key x = kc ino c) → L.length ≤ 512 - a
  | [], a, _, _ => by simp
  | x :: L, a, ha, h => by
    obtain ⟨c, h1, h2, h3⟩ := h x (List.mem_cons_self ..)
    have := own_len0 L (c + 1) ha.cons.2 (fun y hy => by
      obtain ⟨d, g1, g2, g3⟩ := h y (List.mem_cons_of_mem _ hy)
      have hl := ha.cons.1 y hy
      rw [h3, g3, kc_less ino h2 g2] at hl
      exact ⟨d, of_decide_eq_true hl, g2, g3⟩)
    rw [List.length_cons]
    omega
theorem own_len {l : List It} (ha : Asc l) {ino : Int} (hi : 0 < ino ∧ ino < 4294967296) : (own l ino).length ≤ 512 :=
  own_len0 (ino := ino) _ 0 (own_asc ha ino) (fun x hx => by
    obtain ⟨c, hc, e⟩ := (isK_iff hi _).1 (own_mem hx).2
    exact ⟨c, Nat.zero_le _, hc, e⟩)
/-! ### Bytes -/
def vl (l : List It) (ino : Int) (c : Nat) : ByteArray := (look l (kc ino c)).getD ⟨#[]⟩
def byteD (l : List It) (ino : Int) (p : Nat) : UInt8 := (vl l ino (p / 128)).data.toList.getD (p % 128) 0
def chunkF (f : Nat → UInt8) (c : Nat) : List UInt8 := (List.range 128).map (fun i => f (128 * c + i))
theorem chunkF_len (f : Nat → UInt8) (c : Nat) : (chunkF f c).length = 128 := by simp [chunkF]
theorem chunkF_get (f : Nat → UInt8) (c i : Nat) (hi : i < 128) : (chunkF f c)[i]? = some (f (128 * c + i)) := by
  unfold chunkF
  rw [List.getElem?_map, List.getElem?_range hi]
  rfl
theorem chunkF_congr {f g : Nat → UInt8} {c : Nat} (h : ∀ p, p / 128 = c → f p = g p) : chunkF f c = chunkF g c := by
  unfold chunkF
  refine List.map_congr_left (fun i hi => h _ ?_)
  have := List.mem_range.1 hi
  omega
theorem over_get (b s : List UInt8) (o n i : Nat) (h : o + n ≤ b.length) : (over b s o n)[i]? = if o ≤ i ∧ i < o + min s.length n then s[i - o]? else b[i]? := by
  unfold over
  have l1 : (b.take o).length = o := by rw [List.length_take]; omega
  have l2 : (s.take n).length = min n s.length := List.length_take ..
  have l3 : (b.take o ++ s.take n).length = o + min n s.length := by rw [List.length_append, l1, l2]
  rcases Nat.lt_or_ge i (o + min n s.length) with h1 | h1
  · rw [List.getElem?_append_left (by rw [l3]; exact h1)]
    rcases Nat.lt_or_ge i o with h2 | h2
    · rw [List.getElem?_append_left (by rw [l1]; exact h2), List.getElem?_take, if_pos h2, if_neg (by omega)]
    · rw [List.getElem?_append_right (by rw [l1]; exact h2), l1, List.getElem?_take, if_pos (by omega), if_pos (by omega)]
  · rw [List.getElem?_append_right (by rw [l3]; exact h1), l3, List.getElem?_drop, if_neg (by omega)]
    congr 1
    omega
theorem padL_get (s : ByteArray) (i : Nat) (hi : i < 128) : (padL s)[i]? = some (s.data.toList.getD i 0) := by
  unfold padL
  rw [over_get _ _ _ _ _ (by simp)]
  rw [List.getD_eq_getElem?_getD]
  rcases Nat.lt_or_ge i s.data.toList.length with h | h
  · rw [if_pos (by omega), Nat.sub_zero, List.getElem?_eq_getElem h]
    rfl
  · rw [if_neg (by omega), List.getElem?_eq_none h, List.getElem?_replicate, if_pos hi]
    rfl
theorem padL_chunk (l : List It) (ino : Int) (c : Nat) : padL (vl l ino c) = chunkF (byteD l ino) c := by
  refine List.ext_getElem? (fun i => ?_)
  rcases Nat.lt_or_ge i 128 with h | h
  · rw [padL_get _ _ h, chunkF_get _ _ _ h]
    unfold byteD
    rw [show (128 * c + i) / 128 = c by omega, show (128 * c + i) % 128 = i by omega]
  · rw [List.getElem?_eq_none (by rw [padL_len]; exact h), List.getElem?_eq_none (by rw [chunkF_len]; exact h)]
/-- f, with s laid over it from p on. -/
def layF (f : Nat → UInt8) (p : Nat) (s : List UInt8) (q : Nat) : UInt8 := if p ≤ q ∧ q < p + s.length then s.getD (q - p) 0 else f q
theorem over_chunk (f : Nat → UInt8) (p : Nat) (s : List UInt8) : over (chunkF f (p / 128)) s (p % 128) (128 - p % 128) = chunkF (layF f p s) (p / 128) := by
  have hp : p % 128 < 128 := Nat.mod_lt _ (by decide)
  refine List.ext_getElem? (fun i => ?_)
  rw [over_get _ _ _ _ _ (by rw [chunkF_len]; omega)]
  rcases Nat.lt_or_ge i 128 with h | h
  · rw [chunkF_get _ _ _ h, chunkF_get _ _ _ h]
    unfold layF
    by_cases hq : p % 128 ≤ i ∧ i < p % 128 + min s.length (128 - p % 128)
    · rw [if_pos hq, if_pos (by omega), List.getD_eq_getElem?_getD, show 128 * (p / 128) + i - p = i - p % 128 by omega, List.getElem?_eq_getElem (show i - p % 128 < s.length by omega)]
      rfl
    · rw [if_neg hq, if_neg (by omega)]
  · rw [if_neg (by omega), List.getElem?_eq_none (by rw [chunkF_len]; exact h), List.getElem?_eq_none (by rw [chunkF_len]; exact h)]
/-! ### What is kept of a chunk -/
def opt (t : ByteArray) : Option (List UInt8) := if t.data.toList = [] then none else some t.data.toList
def lk (l : List It) (k : List UInt8) : Option (List UInt8) := (look l k).map (fun v => v.data.toList)
def keepS (l : List It) (ino : Int) (j : Nat) (t : ByteArray) : List Ch := if lk l (kc ino j) = opt t then [] else [⟨ba (kc ino j), !t.data.toList.isEmpty, t⟩]
/-- What changes of an inode's chunks are to make of them. -/
def Real (l : List It) (cs : List Ch) (ino : Int) (R : Nat → Prop) (T : Nat → Option (List UInt8)) : Prop :=
  (∀ c ∈ cs, ∃ j, R j ∧ ck c = kc ino j ∧ (if c.f1 = true then some c.f2.data.toList else none) = T j) ∧
  (∀ j, R j → (∃ c ∈ cs, ck c = kc ino j) ∨ lk l (kc ino j) = T j)
theorem Real.done {ino : Int} (hi : 0 < ino ∧ ino < 4294967296) {R : Nat → Prop} (hR : ∀ j, R j → j < 512) {T : Nat → Option (List UInt8)} : ∀ (cs : List Ch) (l : List It), okL l = true → okC cs = true → Real l cs ino R T →
    (∀ j, R j → lk (apl l cs) (kc ino j) = T j) ∧ ∀ k, (∀ j, R j → kc ino j ≠ k) → look (apl l cs) k = look l k
  | [], l, _, _, h => ⟨fun j hj => by
      rcases h.2 j hj with ⟨c, hc, _⟩ | h
      · cases hc
      · exact h, fun _ _ => rfl⟩
  | c :: cs, l, hl, hc, h => by
    unfold okC at hc
    rw [List.all_cons, Bool.and_eq_true] at hc
    have ha := ((okL_iff l).1 hl).2
    obtain ⟨j0, hj0, hk0, ht0⟩ := h.1 c (List.mem_cons_self ..)
    have hr : Real (put l c) cs ino R T := by
      refine ⟨fun d hd => h.1 d (List.mem_cons_of_mem _ hd), fun j hj => ?_⟩
      by_cases he : j = j0
      · subst he
        refine .inr ?_
        unfold lk
        rw [look_put ha, if_pos hk0, ← ht0]
        cases c.f1 <;> rfl
      · have hne : ¬ ck c = kc ino j := fun e => he (kc_inj hi hi (hR j hj) (hR j0 hj0) (e.symm.trans hk0)).2
        rcases h.2 j hj with ⟨d, hd, hdk⟩ | h2
        · rcases List.mem_cons.1 hd with rfl | hd
          · exact absurd hdk hne
          · exact .inl ⟨d, hd, hdk⟩
        · refine .inr ?_
          unfold lk at h2 ⊢
          rw [look_put ha, if_neg hne, h2]
    obtain ⟨h1, h2⟩ := Real.done hi hR cs (put l c) (put_ok hl hc.1) hc.2 hr
    refine ⟨h1, fun k hk => (h2 k hk).trans ?_⟩
    rw [look_put ha, if_neg (fun e => hk j0 hj0 (hk0.symm.trans e))]
theorem keepS_real (l : List It) (ino : Int) (js : List Nat) (t : Nat → ByteArray) : Real l (js.flatMap fun j => keepS l ino j (t j)) ino (· ∈ js) (fun j => opt (t j)) := by
  refine ⟨fun c hc => ?_, fun j hj => ?_⟩
  · obtain ⟨j, hj, hc⟩ := List.mem_flatMap.1 hc
    unfold keepS at hc
    split at hc
    · cases hc
    · obtain rfl := List.mem_singleton.1 hc
      refine ⟨j, hj, ba_toList _, ?_⟩
      unfold opt
      dsimp only
      generalize (t j).data.toList = tl
      cases tl <;> simp
  · by_cases h : lk l (kc ino j) = opt (t j)
    · exact .inr h
    · refine .inl ⟨⟨ba (kc ino j), !(t j).data.toList.isEmpty, t j⟩, List.mem_flatMap.2 ⟨j, hj, ?_⟩, ba_toList _⟩
      unfold keepS
      rw [if_neg h]
      exact List.mem_singleton.2 rfl
theorem keepS_ok {l : List It} {ino : Int} (hi : 0 < ino) {j : Nat} (hj : j < 512) {t : ByteArray} (ht : t.size ≤ 160) : ∀ c ∈ keepS l ino j t, okc c = true := by
  intro c hc
  unfold keepS at hc
  split at hc
  · cases hc
  · obtain rfl := List.mem_singleton.1 hc
    have h := kc_len (c := j) hi hj
    unfold okc okK
    simp only [ba_toList, ba_size, Bool.and_eq_true, decide_eq_true_eq, Bool.or_eq_true]
    refine ⟨⟨⟨fun e => by rw [e] at h; simp at h, h.2⟩, ht⟩, ?_⟩
    rw [ByteArray.toList_eq]
    cases t.data.toList <;> simp
theorem trimL_len (l : List UInt8) : (trimL l).length ≤ l.length := by
  unfold trimL
  rw [List.length_reverse]
  exact Nat.le_trans (List.Sublist.length_le (List.dropWhile_sublist _)) (by rw [List.length_reverse]; exact Nat.le_refl _)
theorem trimL_get (l : List UInt8) (i : Nat) : (trimL l).getD i 0 = l.getD i 0 := by
  have key : ∀ r : List UInt8, ∀ i, (r.reverse.dropWhile (· == 0)).reverse.getD i 0 = r.getD i 0 := by
    intro r
    induction h : r.reverse generalizing r with
    | nil =>
      intro i
      have : r = [] := List.reverse_eq_nil_iff.1 h
      subst this
      rfl
    | cons a s ih =>
      intro i
      have hr : r = s.reverse ++ [a] := by rw [← List.reverse_reverse r, h, List.reverse_cons]
      by_cases h0 : a = 0
      · subst h0
        rw [List.dropWhile_cons, if_pos (by rfl)]
        rw [ih s.reverse (by rw [List.reverse_reverse]) i, hr]
        simp only [List.getD_eq_getElem?_getD]
        rcases Nat.lt_trichotomy i s.reverse.length with hi | hi | hi
        · rw [List.getElem?_append_left hi]
        · rw [List.getElem?_append_right (by omega), List.getElem?_eq_none (by omega), hi, Nat.sub_self]
          rfl
        · rw [List.length_reverse] at hi
          rw [List.getElem?_eq_none (by rw [List.length_reverse]; omega), List.getElem?_eq_none (by simp; omega)]
      · rw [List.dropWhile_cons, if_neg (by simpa using h0), ← h, List.reverse_reverse]
  exact key l i
theorem trimB_get (s : ByteArray) (i : Nat) : (trimB s).data.toList.getD i 0 = s.data.toList.getD i 0 := by
  unfold trimB
  rw [show (⟨(trimL s.data.toList).toArray⟩ : ByteArray).data.toList = trimL s.data.toList from rfl]
  exact trimL_get _ _
theorem trimB_size (s : ByteArray) : (trimB s).size ≤ s.size := by
  unfold trimB
  have := trimL_len s.data.toList
  have e1 : (⟨(trimL s.data.toList).toArray⟩ : ByteArray).size = (trimL s.data.toList).length := rfl
  have e2 : s.size = s.data.toList.length := by rw [Array.length_toList]; rfl
  omega
end Go.Proofs.YthbljhmjppjcjaaGreatDoor.Z
end

section
/- What data's inner functions come to. -/
namespace Go.Proofs.YthbljhmjppjcjaaGreatDoor.Z
open Go.RowKit Go.Proofs.YthbljhmjppjcjaaGreatDoorW.PrintWords Go.Proofs.YthbljhmjppjcjaaGreatDoorW.PrintLast Go.Proofs.YthbljhmjppjcjaaGreatDoorW.PrintMore Go.Proofs.YthbljhmjppjcjaaGreatDoor.PM
set_option linter.unusedVariables false
set_option linter.unusedSimpArgs false
theorem open1_f (x : It) (hs : x.f0.size ≤ 9223372036854775807) : Ev (fun k => data_open_1.f k x.f0 x.f1) (!xokP (key x)) := by
  unfold data_open_1.f
  refine Ev.bind (parse_f x.f0 hs) (Ev.const ?_)
  unfold baK xokP key
  rw [ByteArray.toList_eq]
  rfl
theorem idx_l0 (l : List It) (hs : ∀ x ∈ l, x.f0.size ≤ 9223372036854775807) (hl : l.length ≤ 4398046511104) : ∀ d i : Nat, l.length = i + d → (∀ x ∈ l.take i, xokP (key x) = true) →
    ∃ r : Int, Ev (fun k => slices_IndexFunc_api_Item_api_Item_fn43.l0 k l (l.length : Int) (i : Int)) r ∧ ((r = -1 ∧ ∀ x ∈ l, xokP (key x) = true) ∨ ∃ j : Nat, r = (j : Int) ∧ (∃ h : j < l.length, xokP (key (l[j]'h)) = false) ∧ ∀ x ∈ l.take j, xokP (key x) = true) := by
  intro d
  induction d with
  | zero =>
    intro i hi hk
    rw [List.take_of_length_le (by omega)] at hk
    refine ⟨-1, ?_, .inl ⟨rfl, hk⟩⟩
    exact Ev.step (fun k => by rw [slices_IndexFunc_api_Item_api_Item_fn43.l0]) (Ev.ifn (by omega) (Ev.const rfl))
  | succ d ih =>
    intro i hi hk
    have hlt : i < l.length := by omega
    have ho := open1_f l[i] (hs _ (List.getElem_mem hlt))
    cases hb : xokP (key l[i]) with
    | false =>
      rw [hb] at ho
      refine ⟨(i : Int), ?_, .inr ⟨i, rfl, ⟨hlt, hb⟩, hk⟩⟩
      refine Ev.step (fun k => by rw [slices_IndexFunc_api_Item_api_Item_fn43.l0]) (Ev.ifp (by omega) (Ev.ifp (by omega) (Ev.ifp (by omega) ?_)))
      rw [rd_get l i hlt]
      exact Ev.bind ho (Ev.ifp rfl (Ev.const rfl))
    | true =>
      rw [hb] at ho
      obtain ⟨r, h1, h2⟩ := ih (i + 1) (by omega) (fun x hx => by
        rw [List.take_succ_eq_append_getElem hlt] at hx
        rcases List.mem_append.1 hx with hx | hx
        · exact hk x hx
        · rw [List.mem_singleton.1 hx]; exact hb)
      refine ⟨r, ?_, h2⟩
      refine Ev.step (fun k => by rw [slices_IndexFunc_api_Item_api_Item_fn43.l0]) (Ev.ifp (by omega) (Ev.ifp (by omega) (Ev.ifp (by omega) ?_)))
      rw [rd_get l i hlt]
      refine Ev.bind ho (Ev.ifn (by decide) ?_)
      rw [w64 (by omega) (by omega)]
      exact h1
theorem delL_f : ∀ (d : Nat) (L : List It) (i j : Nat), L.length = j + d → i ≤ j → (∀ x ∈ L, x.f0.size ≤ 9223372036854775807) →
    Ev (fun k => delL k d L (i : Int) (j : Int)) (L.take i ++ (L.drop j).filter (fun x => xokP (key x))) := by
  intro d
  induction d with
  | zero =>
    intro L i j hj hij hs
    refine Ev.congr (fun k => by rw [delL]) (Ev.const ?_)
    rw [List.drop_of_length_le (by omega), Int.toNat_natCast]
    simp
  | succ d ih =>
    intro L i j hj hij hs
    have hlt : j < L.length := by omega
    have ho := open1_f L[j] (hs _ (List.getElem_mem hlt))
    refine Ev.congr (fun k => by rw [delL]) ?_
    rw [rd_get L j hlt]
    refine Ev.bind ho ?_
    rw [List.drop_eq_getElem_cons hlt, show (j : Int) + 1 = ((j + 1 : Nat) : Int) by omega, show (i : Int) + 1 = ((i + 1 : Nat) : Int) by omega]
    cases hb : xokP (key L[j]) with
    | false =>
      rw [List.filter_cons_of_neg (p := fun x => xokP (key x)) (by rw [hb]; decide)]
      exact Ev.ifp rfl (ih L i (j + 1) (by omega) (by omega) hs)
    | true =>
      rw [List.filter_cons_of_pos (p := fun x => xokP (key x)) hb, Int.toNat_natCast]
      have hi : i < L.length := by omega
      have e1 : (L.set i L[j]).take (i + 1) = L.take i ++ [L[j]] := by
        rw [List.set_eq_take_append_cons_drop, if_pos hi, List.take_append, List.length_take, Nat.min_eq_left (by omega), List.take_of_length_le (by rw [List.length_take]; omega), show i + 1 - i = 1 by omega]
        rfl
      have e2 : (L.set i L[j]).drop (j + 1) = L.drop (j + 1) := List.drop_set_of_lt (by omega)
      refine Ev.ifn (by decide) (Ev.val (ih (L.set i L[j]) (i + 1) (j + 1) (by rw [List.length_set]; omega) (by omega) (fun x hx => ?_)) ?_)
      · rcases List.mem_or_eq_of_mem_set hx with hx | rfl
        · exact hs x hx
        · exact hs _ (List.getElem_mem hlt)
      · rw [e1, e2, List.append_assoc]
        rfl
theorem delF_f (l : List It) (hs : ∀ x ∈ l, x.f0.size ≤ 9223372036854775807) (hl : l.length ≤ 4398046511104) : Ev (fun k => delF k l) (l.filter (fun x => xokP (key x))) := by
  unfold delF slices_IndexFunc_api_Item_api_Item_fn43.f
  obtain ⟨r, h1, h2⟩ := idx_l0 l hs hl l.length 0 (by omega) (by simp)
  refine Ev.bind h1 ?_
  rcases h2 with ⟨rfl, h2⟩ | ⟨j, rfl, ⟨hj, hb⟩, hk⟩
  · refine Ev.ifp rfl (Ev.const ?_)
    rw [List.filter_eq_self.2 h2]
  · refine Ev.ifn (by omega) (Ev.ifp (by omega) ?_)
    rw [show (j : Int) + 1 = ((j + 1 : Nat) : Int) by omega, Int.toNat_natCast]
    refine Ev.val (delL_f (l.length - (j + 1)) l j (j + 1) (by omega) (by omega) hs) ?_
    conv => rhs; rw [← List.take_append_drop j l]
    rw [List.filter_append, List.filter_eq_self.2 hk, List.drop_eq_getElem_cons hj, List.filter_cons_of_neg (p := fun x => xokP (key x)) (by rw [hb]; decide)]
def opnS (l : List It) (ino : Int) : List It × Int := if okL l = true then (own l ino, if ino = 0 then 1 else 0) else ([], 4)
theorem okI_size {l : List It} (h : okL l = true) {x : It} (hx : x ∈ l) : x.f0.size ≤ 48 ∧ x.f1.size ≤ 160 := by
  have h1 := ((okL_iff l).1 h).1 x hx
  unfold okI okK at h1
  simp only [Bool.and_eq_true, decide_eq_true_eq] at h1
  exact ⟨h1.1.2, h1.2⟩
theorem openF_f (l : List It) (hl : l.length ≤ 4398046511104) {ino : Int} (hi : 0 ≤ ino ∧ ino < 4294967296) : Ev (fun k => openF k l ino) (opnS l ino) := by
  unfold openF
  refine Ev.bind (prefix_f 3 ino (by decide) hi) (Ev.bind (itUnder l hl _) ?_)
  unfold underS opnS
  rw [ba_toList]
  by_cases h : okL l = true
  · rw [if_pos h, if_pos h]
    refine Ev.bind (delF_f _ (fun x hx => by have := (okI_size h (List.mem_filter.1 hx).1).1; omega) (Nat.le_trans (List.length_filter_le ..) hl)) (Ev.const ?_)
    by_cases h0 : ino = 0
    · rw [if_pos ⟨rfl, h0⟩, if_pos h0]
      rfl
    · rw [if_neg (fun h => h0 h.2), if_neg h0]
      rfl
  · rw [if_neg h, if_neg h]
    exact Ev.bind (delF_f [] (by simp) (by simp)) (Ev.const rfl)
theorem keyF_f {ino : Int} (hi : 0 < ino ∧ ino < 4294967296) {c : Nat} (hc : c < 512) : Ev (fun k => keyF k ino (c : Int)) (ba (kc ino c)) := by
  unfold keyF
  rw [show (c : Int) % 4294967296 = (c : Int) by omega]
  refine Ev.bind (key_f 3 ino ⟨#[]⟩ (c : Int) (by decide) ⟨by omega, hi.2⟩ (by omega)) (Ev.const ?_)
  unfold keyS
  rw [show (⟨#[]⟩ : ByteArray).data.toList = [] from rfl, if_pos (kc_right hi.1 hc)]
  rfl
theorem ksearch_l0 {l : List It} (ha : Asc l) (hl : l.length ≤ 4398046511104) (a : ByteArray) : ∀ d i j : Nat, j - i ≤ d → i ≤ (lo l a.toList).length → (lo l a.toList).length ≤ j → j ≤ l.length →
    Ev (fun k => slices_BinarySearchFunc_api_Item_api_Item_string_fn69.l0 k l a (l.length : Int) (i : Int) (j : Int)) (((lo l a.toList).length : Int), fnd l a.toList) := by
  have endd : ∀ i : Nat, i = (lo l a.toList).length → ∀ j : Nat, ¬ ((i : Int) < (j : Int)) → Ev (fun k => slices_BinarySearchFunc_api_Item_api_Item_string_fn69.l0 k l a (l.length : Int) (i : Int) (j : Int)) (((lo l a.toList).length : Int), fnd l a.toList) := by
    intro i hi j hj
    refine Ev.step (fun k => by rw [slices_BinarySearchFunc_api_Item_api_Item_string_fn69.l0]) (Ev.ifn hj ?_)
    have hu := up_drop l a.toList
    rw [← hi] at hu
    rcases Nat.lt_or_ge i l.length with hlt | hge
    · refine Ev.ifp (by omega) (Ev.ifp (by omega) (Ev.ifp (by omega) ?_))
      refine Ev.bindc (show data_file_kept_1.f _ _ _ = some _ by unfold data_file_kept_1.f; rw [compare_f]; rfl) (Ev.const ?_)
      rw [rd_get l i hlt, cmpS_eq, ← hi]
      unfold fnd
      rw [hu, List.drop_eq_getElem_cons hlt]
    · refine Ev.ifn (by omega) (Ev.const ?_)
      rw [← hi]
      unfold fnd
      rw [hu, List.drop_of_length_le hge]
  intro d
  induction d with
  | zero =>
    intro i j hd h1 h2 h3
    exact endd i (by omega) j (by omega)
  | succ d ih =>
    intro i j hd h1 h2 h3
    by_cases hij : i < j
    · refine Ev.step (fun k => by rw [slices_BinarySearchFunc_api_Item_api_Item_string_fn69.l0]) (Ev.ifp (by omega) ?_)
      have hm : wrap64 ((IntKind.u64.wrap (wrap64 ((i : Int) + (j : Int)))) / 2) = (((i + j) / 2 : Nat) : Int) := by
        rw [w64 (i := (i : Int) + (j : Int)) (by omega) (by omega), iu64w (by omega) (by omega), w64 (by omega) (by omega)]; omega
      rw [hm]
      obtain ⟨h, hh⟩ : ∃ h, h = (i + j) / 2 := ⟨_, rfl⟩
      have hh1 : i ≤ h := by omega
      have hh2 : h < j := by omega
      rw [← hh]
      have hlt : h < l.length := by omega
      refine Ev.ifp (by omega) (Ev.ifp (by omega) ?_)
      refine Ev.bindc (show data_file_kept_1.f _ _ _ = some _ by unfold data_file_kept_1.f; rw [compare_f]; rfl) ?_
      rw [rd_get l h hlt]
      have hg := lo_get ha a.toList h hlt
      by_cases hb : Op.bytesLess (key l[h]) a.toList = true
      · refine Ev.ifp ((cmpS_lt _ _).2 hb) ?_
        have e : wrap64 ((h : Int) + 1) = ((h + 1 : Nat) : Int) := by rw [w64 (by omega) (by omega)]; omega
        rw [e]
        exact ih (h + 1) j (by omega) (by have := hg.1 hb; omega) h2 h3
      · refine Ev.ifn (fun hc => hb ((cmpS_lt _ _).1 hc)) ?_
        refine ih i h (by omega) h1 ?_ (by omega)
        rcases Nat.lt_or_ge h (lo l a.toList).length with hc | hc
        · exact absurd (hg.2 hc) hb
        · exact hc
    · exact endd i (by omega) j (by omega)
theorem keptF_f {l : List It} (ha : Asc l) {ino : Int} (hi : 0 < ino ∧ ino < 4294967296) {c : Nat} (hc : c < 512) : Ev (fun k => keptF k ino (own l ino) (c : Int)) (vl l ino c, (look l (kc ino c)).isSome) := by
  unfold keptF slices_BinarySearchFunc_api_Item_api_Item_string_fn69.f
  have hlen := own_len ha hi
  have hao := own_asc ha ino
  have hlo := lo_le (own l ino) (kc ino c)
  refine Ev.bind (keyF_f hi hc) (Ev.bind (ksearch_l0 hao (by omega) (ba (kc ino c)) (own l ino).length 0 (own l ino).length (by omega) (by omega) (lo_le _ _) (Nat.le_refl _)) ?_)
  rw [ba_toList]
  unfold vl
  rw [← own_look hi l hc]
  cases hf : fnd (own l ino) (kc ino c) with
  | true =>
    obtain ⟨h, hk, _⟩ := at_fnd hao hf
    refine Ev.ifp rfl (Ev.ifp ⟨by simp only; omega, by simp only; omega⟩ (Ev.const ?_))
    rw [look_fnd hao hf h]
    simp only
    rw [rd_get _ _ h]
    rfl
  | false =>
    refine Ev.ifn (by simp) (Ev.const ?_)
    rw [look_not hao hf]
    rfl
theorem bytesF_f {l : List It} (ha : Asc l) {ino : Int} (hi : 0 < ino ∧ ino < 4294967296) {c : Nat} (hc : c < 512) : Ev (fun k => bytesF k ino (own l ino) (c : Int)) (chunkF (byteD l ino) c) := by
  unfold bytesF
  refine Ev.bind (keptF_f ha hi hc) (Ev.const ?_)
  rw [padL_chunk]
theorem keepF_f {l : List It} (ha : Asc l) {ino : Int} (hi : 0 < ino ∧ ino < 4294967296) {c : Nat} (hc : c < 512) (b : ByteArray) (hb : b.size ≤ 9223372036854775807) : Ev (fun k => keepF k ino (own l ino) (c : Int) b) (keepS l ino c (trimB b)) := by
  unfold keepF
  refine Ev.bindc (show strings_TrimRight.f b ⟨#[0]⟩ = some (trimB b) from if_pos ⟨rfl, hb⟩) (Ev.bind (keptF_f ha hi hc) ?_)
  unfold keepS
  rw [ByteArray.toList_eq, ByteArray.toList_eq]
  have hiff : ((look l (kc ino c)).isSome = (!(trimB b).data.toList.isEmpty) ∧ (vl l ino c).data.toList = (trimB b).data.toList) ↔ lk l (kc ino c) = opt (trimB b) := by
    unfold vl lk opt
    generalize (trimB b).data.toList = t
    cases look l (kc ino c) with
    | none => cases t <;> simp
    | some v => cases t <;> simp
  by_cases h : lk l (kc ino c) = opt (trimB b)
  · rw [if_pos h]
    exact Ev.ifp (hiff.2 h) (Ev.const rfl)
  · rw [if_neg h]
    exact Ev.ifn (fun h' => h (hiff.1 h')) (Ev.bind (keyF_f hi hc) (Ev.const rfl))
end Go.Proofs.YthbljhmjppjcjaaGreatDoor.Z
end

section
/- What Read, Write and Cut come to. -/
namespace Go.Proofs.YthbljhmjppjcjaaGreatDoor.Z
open Go.RowKit Go.Proofs.YthbljhmjppjcjaaGreatDoorW.PrintWords Go.Proofs.YthbljhmjppjcjaaGreatDoorW.PrintLast Go.Proofs.YthbljhmjppjcjaaGreatDoorW.PrintMore Go.Proofs.YthbljhmjppjcjaaGreatDoor.PM
set_option linter.unusedVariables false
set_option linter.unusedSimpArgs false
theorem chunk_slice (f : Nat → UInt8) (c p q : Nat) (h1 : 128 * c ≤ p) (h2 : p ≤ q) (h3 : q ≤ 128 * c + 128) : ((chunkF f c).drop (p - 128 * c)).take (q - 128 * c - (p - 128 * c)) = (List.range' p (q - p)).map f := by
  refine List.ext_getElem? (fun i => ?_)
  rw [List.getElem?_take, List.getElem?_map]
  rcases Nat.lt_or_ge i (q - p) with h | h
  · rw [if_pos (by omega), List.getElem?_drop, chunkF_get _ _ _ (by omega), List.getElem?_range' h]
    simp only [Option.map_some]
    congr 2
    omega
  · rw [if_neg (by omega), List.getElem?_eq_none (by rw [List.length_range']; exact h)]
    rfl
theorem readL_f {l : List It} (ha : Asc l) {ino : Int} (hi : 0 < ino ∧ ino < 4294967296) (e : Nat) (he : e ≤ 65536) : ∀ (n p c : Nat) (acc : List UInt8), (p = e ∨ p < e ∧ c = p / 128) → e + 128 ≤ 128 * (c + n) → 128 * c < e + 128 → acc.length ≤ p →
    Ev (fun k => readL k ino (own l ino) (e : Int) n (p : Int) (c : Int) acc) (acc ++ (List.range' p (e - p)).map (byteD l ino)) := by
  intro n
  induction n with
  | zero => intro p c acc _ h1 h2 _; omega
  | succ n ih =>
    intro p c acc hpc h1 h2 hacc
    refine Ev.congr (fun k => by rw [readL]) ?_
    by_cases hp : p < e
    · have hc : c = p / 128 := by omega
      refine Ev.ifn (by omega) (Ev.bind (bytesF_f ha hi (c := c) (by omega)) (Ev.ifp ⟨by omega, by omega, by omega, by omega, by omega, by omega⟩ ?_))
      rw [show min (e : Int) (((c : Int) + 1) * 128) = ((min e ((c + 1) * 128) : Nat) : Int) by omega, show (c : Int) + 1 = ((c + 1 : Nat) : Int) by omega]
      obtain ⟨q, hq⟩ : ∃ q, q = min e ((c + 1) * 128) := ⟨_, rfl⟩
      rw [← hq, show ((p : Int) - (c : Int) * 128).toNat = p - 128 * c by omega, show ((q : Int) - (c : Int) * 128).toNat = q - 128 * c by omega, chunk_slice _ c p q (by omega) (by omega) (by omega)]
      refine Ev.val (ih q (c + 1) _ (by omega) (by omega) (by omega) (by rw [List.length_append, List.length_map, List.length_range']; omega)) ?_
      rw [List.append_assoc, ← List.map_append]
      have hr := List.range'_append_1 (s := p) (m := q - p) (n := e - q)
      rw [show p + (q - p) = q by omega] at hr
      rw [hr, show q - p + (e - q) = e - p by omega]
    · refine Ev.ifp (by omega) (Ev.const ?_)
      rw [show e - p = 0 by omega]
      simp
def readS (l : List It) (ino len off n : Int) : ByteArray × Int := if okL l = true then (if ino = 0 ∨ len > 65536 then (⟨#[]⟩, 1) else (ba ((List.range' off.toNat ((min len (off + n)).toNat - off.toNat)).map (byteD l ino)), 0)) else (⟨#[]⟩, 4)
theorem data_Read_f (l : List It) (hl : l.length ≤ 4398046511104) {ino len off n : Int} (hi : 0 ≤ ino ∧ ino < 4294967296) (hlen : 0 ≤ len) (ho : 0 ≤ off ∧ off < 4294967296) (hn : 0 ≤ n ∧ n < 4294967296) :
    Ev (fun k => data_Read.f k l ino len off n) (readS l ino len off n) := by
  unfold data_Read.f
  refine Ev.ifp ⟨hlen, ho.1, ho.2, hn.1, hn.2⟩ (Ev.bind (openF_f l hl hi) ?_)
  unfold opnS readS
  by_cases hk : okL l = true
  · rw [if_pos hk, if_pos hk]
    have ha := ((okL_iff l).1 hk).2
    by_cases h0 : ino = 0
    · rw [if_pos h0, if_pos (.inl h0)]
      have e : rck 1 len = 1 := if_neg (fun h => by have := h.1; omega)
      refine Ev.ifn (by simp only; rw [e]; decide) (Ev.const ?_)
      simp only
      rw [e]
    · rw [if_neg h0]
      by_cases h1 : len > 65536
      · rw [if_pos (.inr h1)]
        have e : rck 0 len = 1 := if_pos ⟨rfl, h1⟩
        refine Ev.ifn (by simp only; rw [e]; decide) (Ev.const ?_)
        simp only
        rw [e]
      · rw [if_neg (fun h => h.elim h0 h1)]
        have e : rck 0 len = 0 := if_neg (fun h => h1 h.2)
        refine Ev.ifp e ?_
        obtain ⟨E, hE⟩ : ∃ E : Nat, E = (min len (off + n)).toNat := ⟨_, rfl⟩
        obtain ⟨p, hp⟩ : ∃ p : Nat, p = off.toNat := ⟨_, rfl⟩
        rw [← hE, ← hp, show min len (off + n) = (E : Int) by omega, show off = (p : Int) by omega, show (p : Int) / 128 = ((p / 128 : Nat) : Int) by omega]
        by_cases hpe : p < E
        · refine Ev.bind (readL_f ha ⟨by omega, hi.2⟩ E (by omega) 600 p (p / 128) [] (.inr ⟨hpe, rfl⟩) (by omega) (by omega) (by simp)) (Ev.const ?_)
          rw [List.nil_append]
          rfl
        · refine Ev.bind (Ev.congr (fun k => by rw [readL]) (Ev.ifp (by omega) (Ev.const rfl))) (Ev.const ?_)
          rw [show E - p = 0 by omega]
          rfl
  · rw [if_neg hk, if_neg hk]
    have e : rck 4 len = 4 := if_neg (fun h => by have := h.1; omega)
    refine Ev.ifn (by simp only; rw [e]; decide) (Ev.const ?_)
    simp only
    rw [e]
/-! ### Write -/
/-- The chunks that n bytes at p touch. -/
def js (p n : Nat) : List Nat := if n = 0 then [] else List.range' (p / 128) ((p + n - 1) / 128 - p / 128 + 1)
theorem js_mem (p n j : Nat) : j ∈ js p n ↔ ∃ q, p ≤ q ∧ q < p + n ∧ q / 128 = j := by
  unfold js
  by_cases h : n = 0
  · rw [if_pos h]
    constructor
    · intro h; cases h
    · rintro ⟨q, h1, h2, _⟩; omega
  · rw [if_neg h, List.mem_range'_1]
    constructor
    · intro hj
      by_cases h1 : 128 * j ≤ p
      · exact ⟨p, by omega, by omega, by omega⟩
      · exact ⟨128 * j, by omega, by omega, by omega⟩
    · rintro ⟨q, h1, h2, h3⟩
      omega
theorem keepS_len (l : List It) (ino : Int) (j : Nat) (t : ByteArray) : (keepS l ino j t).length ≤ 1 := by
  unfold keepS
  split <;> simp
theorem sizeL (s : ByteArray) : s.data.toList.length = s.size := by rw [Array.length_toList]; rfl
def laidT (l : List It) (ino : Int) (p0 : Nat) (s0 : List UInt8) (j : Nat) : ByteArray := trimB (ba (chunkF (layF (byteD l ino) p0 s0) j))
theorem writeL_f {l : List It} (ha : Asc l) {ino : Int} (hi : 0 < ino ∧ ino < 4294967296) (p0 : Nat) (s0 : List UInt8) (h0 : p0 + s0.length ≤ 65536) : ∀ (n p : Nat) (s : ByteArray) (acc : List Ch), s.size < n → p0 ≤ p → s.data.toList = s0.drop (p - p0) → p + s.size = p0 + s0.length → (p = p0 ∨ p % 128 = 0 ∨ s.size = 0) → acc.length ≤ p →
    Ev (fun k => writeL k ino (own l ino) n (p : Int) s acc) (acc ++ (js p s.size).flatMap (fun j => keepS l ino j (laidT l ino p0 s0 j))) := by
  intro n
  induction n with
  | zero => intro p s acc h; omega
  | succ n ih =>
    intro p s acc h1 h2 h3 h4 h5 h6
    refine Ev.congr (fun k => by rw [writeL]) ?_
    have hz := sizeL s
    by_cases hs : s.toList = []
    · refine Ev.ifp hs (Ev.const ?_)
      rw [ByteArray.toList_eq] at hs
      rw [hs] at hz
      unfold js
      rw [if_pos (by simpa using hz.symm)]
      simp
    · have hs0 : s.size ≠ 0 := by
        intro h
        apply hs
        rw [ByteArray.toList_eq]
        exact List.length_eq_zero_iff.1 (hz.trans h)
      rw [show (p : Int) / 128 = ((p / 128 : Nat) : Int) by omega, show ((p : Int) % 128).toNat = p % 128 by omega]
      refine Ev.ifn hs (Ev.bind (bytesF_f ha hi (c := p / 128) (by omega)) (Ev.ifp ⟨by omega, by omega, by omega⟩ ?_))
      rw [over_chunk]
      have hch : chunkF (layF (byteD l ino) p s.data.toList) (p / 128) = chunkF (layF (byteD l ino) p0 s0) (p / 128) := by
        refine chunkF_congr (fun q hq => ?_)
        unfold layF
        by_cases hin : p ≤ q ∧ q < p + s.data.toList.length
        · rw [if_pos hin, if_pos (by omega), h3, List.getD_eq_getElem?_getD, List.getD_eq_getElem?_getD, List.getElem?_drop, show p - p0 + (q - p) = q - p0 by omega]
        · rw [if_neg hin]
          by_cases hin2 : p0 ≤ q ∧ q < p0 + s0.length
          · omega
          · rw [if_neg hin2]
      rw [hch]
      have hkl := keepS_len l ino (p / 128) (laidT l ino p0 s0 (p / 128))
      refine Ev.bind (keepF_f ha hi (c := p / 128) (by omega) _ (by rw [show (⟨(chunkF (layF (byteD l ino) p0 s0) (p / 128)).toArray⟩ : ByteArray).size = _ from ba_size _, chunkF_len]; decide)) (Ev.ifp (by
        show acc.length + (keepS l ino (p / 128) (laidT l ino p0 s0 (p / 128))).length ≤ 1048576
        omega) ?_)
      obtain ⟨m, hm⟩ : ∃ m, m = min s.size (128 - p % 128) := ⟨_, rfl⟩
      rw [← hm, show (p : Int) + (m : Int) = ((p + m : Nat) : Int) by omega]
      have hd : (s.extract m s.size).data.toList = s.data.toList.drop m := by rw [ext_end, ba_data]
      have hsz : (s.extract m s.size).size = s.size - m := by rw [ext_end, ba_size, List.length_drop, hz]
      refine Ev.val (ih (p + m) (s.extract m s.size) _ (by omega) (by omega) (by rw [hd, h3, List.drop_drop]; congr 1; omega) (by omega) ?_ ?_) ?_
      · by_cases hlast : m = s.size
        · exact .inr (.inr (by omega))
        · exact .inr (.inl (by omega))
      · rw [List.length_append]
        show acc.length + (keepS l ino (p / 128) (laidT l ino p0 s0 (p / 128))).length ≤ p + m
        omega
      · rw [List.append_assoc, hsz]
        congr 1
        have hj : js p s.size = (p / 128) :: js (p + m) (s.size - m) := by
          unfold js
          rw [if_neg hs0]
          by_cases hlast : m = s.size
          · rw [if_pos (by omega), show (p + s.size - 1) / 128 - p / 128 + 1 = 1 by omega]
            rfl
          · rw [if_neg (by omega), List.range'_succ]
            congr 1
            rw [show (p + m) / 128 = p / 128 + 1 by omega, show (p + m + (s.size - m) - 1) / 128 - (p / 128 + 1) + 1 = (p + s.size - 1) / 128 - p / 128 by omega]
        rw [hj, List.flatMap_cons]
        rfl
def writeS (l : List It) (ino off : Int) (s : ByteArray) : List Ch × Int := if okL l = true then (if ino = 0 ∨ off + s.size > 65536 then ([], 1) else ((js off.toNat s.size).flatMap (fun j => keepS l ino j (laidT l ino off.toNat s.data.toList j)), 0)) else ([], 4)
theorem data_Write_f (l : List It) (hl : l.length ≤ 4398046511104) {ino off : Int} (s : ByteArray) (hi : 0 ≤ ino ∧ ino < 4294967296) (ho : 0 ≤ off ∧ off < 4294967296) (hs : s.size ≤ 9223372036854775807) :
    Ev (fun k => data_Write.f k l ino off s) (writeS l ino off s) := by
  unfold data_Write.f
  refine Ev.ifp ⟨ho.1, ho.2, hs⟩ (Ev.bind (openF_f l hl hi) ?_)
  unfold opnS writeS
  by_cases hk : okL l = true
  · rw [if_pos hk, if_pos hk]
    have ha := ((okL_iff l).1 hk).2
    by_cases h0 : ino = 0
    · rw [if_pos h0, if_pos (.inl h0)]
      have e : wk 1 off s.size = 1 := if_neg (fun h => by have := h.1; omega)
      refine Ev.ifn (by simp only; rw [e]; decide) (Ev.const ?_)
      simp only
      rw [e]
    · rw [if_neg h0]
      by_cases h1 : off + s.size > 65536
      · rw [if_pos (.inr h1)]
        have e : wk 0 off s.size = 1 := if_pos ⟨rfl, h1⟩
        refine Ev.ifn (by simp only; rw [e]; decide) (Ev.const ?_)
        simp only
        rw [e]
      · rw [if_neg (fun h => h.elim h0 h1)]
        have e : wk 0 off s.size = 0 := if_neg (fun h => h1 h.2)
        refine Ev.ifp e ?_
        have hz := sizeL s
        obtain ⟨p, hp⟩ : ∃ p : Nat, p = off.toNat := ⟨_, rfl⟩
        rw [← hp, show off = (p : Int) by omega]
        refine Ev.bind (writeL_f ha ⟨by omega, hi.2⟩ p s.data.toList (by omega) 70000 p s [] (by omega) (Nat.le_refl _) (by rw [Nat.sub_self]; rfl) (by omega) (.inl rfl) (by simp)) (Ev.const ?_)
        rw [List.nil_append]
  · rw [if_neg hk, if_neg hk]
    have e : wk 4 off s.size = 4 := if_neg (fun h => by have := h.1; omega)
    refine Ev.ifn (by simp only; rw [e]; decide) (Ev.const ?_)
    simp only
    rw [e]
/-! ### Cut -/
end Go.Proofs.YthbljhmjppjcjaaGreatDoor.Z
end

section
/- What data's changes make of a list. -/
namespace Go.Proofs.YthbljhmjppjcjaaGreatDoor.Z
open Go.RowKit Go.Proofs.YthbljhmjppjcjaaGreatDoorW.PrintWords Go.Proofs.YthbljhmjppjcjaaGreatDoorW.PrintLast Go.Proofs.YthbljhmjppjcjaaGreatDoorW.PrintMore Go.Proofs.YthbljhmjppjcjaaGreatDoor.PM
set_option linter.unusedVariables false
set_option linter.unusedSimpArgs false
/-! ### Write -/
def wrC (l : List It) (ino : Int) (p : Nat) (s : List UInt8) : List Ch := (js p s.length).flatMap (fun j => keepS l ino j (laidT l ino p s j))
theorem laidT_size (l : List It) (ino : Int) (p : Nat) (s : List UInt8) (j : Nat) : (laidT l ino p s j).size ≤ 128 := by
  unfold laidT
  have := trimB_size (ba (chunkF (layF (byteD l ino) p s) j))
  rw [ba_size, chunkF_len] at this
  exact this
theorem js_lt {p n : Nat} (h : p + n ≤ 65536) {j : Nat} (hj : j ∈ js p n) : j < 512 := by
  obtain ⟨q, h1, h2, h3⟩ := (js_mem _ _ _).1 hj
  omega
theorem wrC_okC (l : List It) {ino : Int} (hi : 0 < ino ∧ ino < 4294967296) {p : Nat} {s : List UInt8} (h : p + s.length ≤ 65536) : okC (wrC l ino p s) = true := by
  refine List.all_eq_true.2 (fun c hc => ?_)
  obtain ⟨j, hj, hc⟩ := List.mem_flatMap.1 hc
  exact keepS_ok hi.1 (js_lt h hj) (by have := laidT_size l ino p s j; omega) c hc
theorem wrC_done {l : List It} (hk : okL l = true) {ino : Int} (hi : 0 < ino ∧ ino < 4294967296) {p : Nat} {s : List UInt8} (h : p + s.length ≤ 65536) :
    (∀ j ∈ js p s.length, lk (apl l (wrC l ino p s)) (kc ino j) = opt (laidT l ino p s j)) ∧ ∀ k, (∀ j ∈ js p s.length, kc ino j ≠ k) → look (apl l (wrC l ino p s)) k = look l k :=
  Real.done hi (fun j hj => js_lt h hj) _ l hk (wrC_okC l hi h) (keepS_real l ino _ _)
theorem laidT_get (l : List It) (ino : Int) (p : Nat) (s : List UInt8) (q : Nat) : (laidT l ino p s (q / 128)).data.toList.getD (q % 128) 0 = layF (byteD l ino) p s q := by
  unfold laidT
  rw [trimB_get, ba_data, List.getD_eq_getElem?_getD, chunkF_get _ _ _ (Nat.mod_lt _ (by decide)), show 128 * (q / 128) + q % 128 = q by omega]
  rfl
theorem wrC_len (l : List It) (ino : Int) {p : Nat} {s : List UInt8} (h : p + s.length ≤ 65536) : (wrC l ino p s).length ≤ 513 := by
  have key : ∀ (xs : List Nat) (f : Nat → List Ch), (∀ j, (f j).length ≤ 1) → (xs.flatMap f).length ≤ xs.length := by
    intro xs f hf
    induction xs with
    | nil => simp
    | cons x xs ih =>
      rw [List.flatMap_cons, List.length_append, List.length_cons]
      have := hf x
      omega
  refine Nat.le_trans (key _ _ (fun j => keepS_len ..)) ?_
  unfold js
  split
  · simp
  · rw [List.length_range']; omega
/-! ### Cut -/
end Go.Proofs.YthbljhmjppjcjaaGreatDoor.Z
end

section
/- TopSized, over lists: a volume with one file (by hand). -/
namespace Go.Proofs.YthbljhmjppjcjaaGreatDoor.Z
open Go.RowKit Go.Proofs.YthbljhmjppjcjaaGreatDoorW.PrintWords Go.Proofs.YthbljhmjppjcjaaGreatDoorW.PrintLast Go.Proofs.YthbljhmjppjcjaaGreatDoorW.PrintMore Go.Proofs.YthbljhmjppjcjaaGreatDoor.PM
set_option linter.unusedVariables false
set_option linter.unusedSimpArgs false
theorem drop_head : ∀ m : List UInt8, m.dropWhile (· == 0) = [] ∨ ∃ c r, m.dropWhile (· == 0) = c :: r ∧ c ≠ 0
  | [] => .inl rfl
  | x :: r => by
    by_cases h : x = 0
    · rw [List.dropWhile_cons_of_pos (by simp [h])]; exact drop_head r
    · rw [List.dropWhile_cons_of_neg (by simp [h])]; exact .inr ⟨x, r, rfl, h⟩
theorem trimL_last (l : List UInt8) (h : trimL l ≠ []) : (trimL l).getD ((trimL l).length - 1) 0 ≠ 0 := by
  unfold trimL at h ⊢
  rcases drop_head l.reverse with he | ⟨c, r, he, hc⟩
  · rw [he] at h; exact absurd rfl h
  · rw [he, List.reverse_cons, List.length_append, List.length_singleton]
    simp [hc]
def kE : List UInt8 := keyL 2 1 [97] 0
def kI : List UInt8 := keyL 1 2 [] 0
def k1 : List UInt8 := keyL 1 1 [] 0
def valI (sz : Int) : ByteArray := ba (enc 2 0 1 sz [])
def toE : ByteArray := ba (be 4 2)
def chI (sz : Int) : Ch := ⟨ba kI, true, valI sz⟩
def chE : Ch := ⟨ba kE, true, toE⟩
def volL (p : Nat) (s : List UInt8) (sz : Int) : List It := apl [newI] (wrC [] 2 p s ++ [chI sz, chE])
theorem new_key : key newI = k1 := ba_toList _
theorem head_ne {a b : List UInt8} (h : a.headD 0 ≠ b.headD 0) : a ≠ b := fun e => h (by rw [e])
theorem kc_ne_new (j : Nat) : kc 2 j ≠ key newI := by
  rw [new_key]
  exact head_ne (a := kc 2 j) (b := k1) (show (99 : UInt8) ≠ k1.headD 0 by decide)
theorem look_new_kc (j : Nat) : look [newI] (kc 2 j) = none := look_none (fun x hx => by rw [List.mem_singleton.1 hx]; exact fun h => kc_ne_new j h.symm)
theorem wrC_new (p : Nat) (s : List UInt8) : wrC [newI] 2 p s = wrC [] 2 p s := by
  have hb : byteD [newI] 2 = byteD [] 2 := by
    funext q
    unfold byteD vl
    rw [look_new_kc]; rfl
  unfold wrC
  congr 1
  funext j
  unfold keepS laidT lk
  rw [look_new_kc, hb]; rfl
def tl (p : Nat) (s : List UInt8) (j : Nat) : List UInt8 := (laidT [] 2 p s j).data.toList
theorem tl_new (p : Nat) (s : List UInt8) (j : Nat) : (laidT [newI] 2 p s j).data.toList = tl p s j := by
  have hb : byteD [newI] 2 = byteD [] 2 := by
    funext q
    unfold byteD vl
    rw [look_new_kc]; rfl
  unfold tl laidT
  rw [hb]
theorem tl_last (p : Nat) (s : List UInt8) (j : Nat) (h : tl p s j ≠ []) : (tl p s j).getD ((tl p s j).length - 1) 0 ≠ 0 := trimL_last _ h
theorem tl_len (p : Nat) (s : List UInt8) (j : Nat) : (tl p s j).length ≤ 128 := by
  have := laidT_size [] 2 p s j
  unfold tl
  rw [Array.length_toList]; exact this
theorem tl_get (p : Nat) (s : List UInt8) (q : Nat) : (tl p s (q / 128)).getD (q % 128) 0 = if p ≤ q ∧ q < p + s.length then s.getD (q - p) 0 else 0 := laidT_get [] 2 p s q
theorem kE_kI : kE ≠ kI := head_ne (by decide)
theorem kE_k1 : kE ≠ k1 := head_ne (by decide)
theorem kI_k1 : kI ≠ k1 := by decide
theorem kc_kE (j : Nat) : kc 2 j ≠ kE := head_ne (a := kc 2 j) (b := kE) (show (99 : UInt8) ≠ kE.headD 0 by decide)
theorem kc_kI (j : Nat) : kc 2 j ≠ kI := head_ne (a := kc 2 j) (b := kI) (show (99 : UInt8) ≠ kI.headD 0 by decide)
theorem kc_k1 (j : Nat) : kc 2 j ≠ k1 := head_ne (a := kc 2 j) (b := k1) (show (99 : UInt8) ≠ k1.headD 0 by decide)
section
variable {p : Nat} {s : List UInt8} {sz : Int}
theorem chI_ok (h0 : 0 ≤ sz) (h1 : sz ≤ 65536) : okc (chI sz) = true := by
  unfold okc okK chI valI
  have : (enc 2 0 1 sz []).length = 13 := by unfold enc; simp [be_len]
  rw [ba_toList, ba_size, ba_size, this]
  rfl
theorem chE_ok : okc chE = true := by
  unfold okc okK chE toE
  rw [ba_toList, ba_size, ba_size, be_len]
  decide
theorem chs_ok (h : p + s.length ≤ 65536) (h0 : 0 ≤ sz) (h1 : sz ≤ 65536) : okC (wrC [] 2 p s ++ [chI sz, chE]) = true := by
  unfold okC
  rw [List.all_append, Bool.and_eq_true]
  refine ⟨wrC_okC [] (by decide) h, ?_⟩
  rw [List.all_cons, chI_ok h0 h1, List.all_cons, chE_ok]
  rfl
theorem vol_ok (h : p + s.length ≤ 65536) (h0 : 0 ≤ sz) (h1 : sz ≤ 65536) : okL (volL p s sz) = true := apl_ok new_ok (chs_ok h h0 h1)
theorem vol_look (h : p + s.length ≤ 65536) (h0 : 0 ≤ sz) (h1 : sz ≤ 65536) (k : List UInt8) : look (volL p s sz) k = if kE = k then some toE else if kI = k then some (valI sz) else look (apl [newI] (wrC [newI] 2 p s)) k := by
  have hm : okL (apl [newI] (wrC [newI] 2 p s)) = true := apl_ok new_ok (wrC_okC [newI] (by decide) h)
  have hp := put_ok hm (chI_ok h0 h1)
  have e : volL p s sz = put (put (apl [newI] (wrC [newI] 2 p s)) (chI sz)) chE := by
    unfold volL apl
    rw [List.foldl_append, wrC_new]; rfl
  rw [e, look_put ((okL_iff _).1 hp).2, look_put ((okL_iff _).1 hm).2]
  show (if (ba kE).toList = k then some toE else if (ba kI).toList = k then some (valI sz) else _) = _
  rw [ba_toList, ba_toList]
theorem mid_kc (h : p + s.length ≤ 65536) {j : Nat} (hj : j ∈ js p s.length) : lk (apl [newI] (wrC [newI] 2 p s)) (kc 2 j) = if tl p s j = [] then none else some (tl p s j) := by
  rw [(wrC_done new_ok (by decide) h).1 j hj]
  unfold opt
  rw [tl_new]
theorem mid_other (h : p + s.length ≤ 65536) {k : List UInt8} (hk : ∀ j ∈ js p s.length, kc 2 j ≠ k) : look (apl [newI] (wrC [newI] 2 p s)) k = look [newI] k := (wrC_done new_ok (by decide) h).2 k hk
theorem look_new {k : List UInt8} {v : ByteArray} (h : look [newI] k = some v) : k1 = k ∧ v = newI.f1 := by
  rw [look_cons] at h
  by_cases hk : key newI = k
  · rw [if_pos hk] at h; exact ⟨new_key ▸ hk, (Option.some.inj h).symm⟩
  · rw [if_neg hk] at h; cases h
/-- What the volume's items are. -/
theorem vol_mem (h : p + s.length ≤ 65536) (h0 : 0 ≤ sz) (h1 : sz ≤ 65536) {x : It} (hx : x ∈ volL p s sz) : (key x = k1 ∧ x.f1 = newI.f1) ∨ (key x = kI ∧ x.f1 = valI sz) ∨ (key x = kE ∧ x.f1 = toE) ∨ ∃ j ∈ js p s.length, key x = kc 2 j ∧ x.f1.data.toList = tl p s j ∧ tl p s j ≠ [] := by
  have hl := look_mem ((okL_iff _).1 (vol_ok h h0 h1)).2 hx
  rw [vol_look h h0 h1] at hl
  by_cases hE : kE = key x
  · rw [if_pos hE] at hl; exact .inr (.inr (.inl ⟨hE.symm, (Option.some.inj hl).symm⟩))
  · rw [if_neg hE] at hl
    by_cases hI : kI = key x
    · rw [if_pos hI] at hl; exact .inr (.inl ⟨hI.symm, (Option.some.inj hl).symm⟩)
    · rw [if_neg hI] at hl
      by_cases hc : ∃ j ∈ js p s.length, kc 2 j = key x
      · obtain ⟨j, hj, hjk⟩ := hc
        have hm := mid_kc h hj
        unfold lk at hm
        rw [hjk, hl] at hm
        by_cases ht : tl p s j = []
        · rw [if_pos ht] at hm; cases hm
        · rw [if_neg ht] at hm
          exact .inr (.inr (.inr ⟨j, hj, hjk.symm, Option.some.inj hm, ht⟩))
      · rw [mid_other h (fun j hj e => hc ⟨j, hj, e⟩)] at hl
        obtain ⟨e1, e2⟩ := look_new hl
        exact .inl ⟨e1.symm, e2⟩
theorem vol_has {k : List UInt8} {v : ByteArray} (hl : look (volL p s sz) k = some v) : ∃ x ∈ volL p s sz, key x = k ∧ x.f1 = v := mem_of_look hl
theorem keptS_key {x : It} {k i : Int} {nm : List UInt8} {c : Int} (hk : key x = keyL k i nm c) (hr : rightK k i nm c = true) (hi : 0 ≤ i ∧ i < 4294967296) (hc : 0 ≤ c) : keptS x = ⟨k, i, ba nm, c, x.f1⟩ ∧ pe x = 0 := by
  have hp := pars_key hr hi hc
  have hk' : x.f0.data.toList = keyL k i nm c := by rw [← ByteArray.toList_eq]; exact hk
  unfold keptS pe
  rw [hk', hp]
  exact ⟨rfl, rfl⟩
theorem kept1 {x : It} (hk : key x = k1) : keptS x = ⟨1, 1, ⟨#[]⟩, 0, x.f1⟩ ∧ pe x = 0 := keptS_key hk (by decide) (by decide) (by decide)
theorem keptI {x : It} (hk : key x = kI) : keptS x = ⟨1, 2, ⟨#[]⟩, 0, x.f1⟩ ∧ pe x = 0 := keptS_key hk (by decide) (by decide) (by decide)
theorem keptE {x : It} (hk : key x = kE) : keptS x = ⟨2, 1, ⟨#[97]⟩, 0, x.f1⟩ ∧ pe x = 0 := keptS_key hk (by decide) (by decide) (by decide)
theorem keptC {x : It} {j : Nat} (hj : j < 512) (hk : key x = kc 2 j) : keptS x = ⟨3, 2, ⟨#[]⟩, (j : Int), x.f1⟩ ∧ pe x = 0 := keptS_key hk (kc_right (by decide) hj) (by decide) (by omega)
theorem inR1 (h : p + s.length ≤ 65536) (h0 : 0 ≤ sz) (h1 : sz ≤ 65536) : inR (volL p s sz) 1 = some ⟨1, 0, 1, 0, ⟨#[]⟩⟩ := by
  unfold inR
  rw [if_pos (by decide), show keyL 1 1 [] 0 = k1 from rfl, vol_look h h0 h1, if_neg kE_k1, if_neg kI_k1, mid_other h (fun j _ => kc_k1 j), look_cons, if_pos new_key]
  kernel_rfl
theorem dec_val (h0 : 0 ≤ sz) (h1 : sz ≤ 65536) : decS (enc 2 0 1 sz []) = (2, 0, 1, sz, [], 0) :=
  dec_enc (decide_eq_true (.inr (.inl ⟨rfl, by decide, h1, rfl⟩))) (by decide) (by decide) (by decide) ⟨h0, by omega⟩
theorem inR2 (h : p + s.length ≤ 65536) (h0 : 0 ≤ sz) (h1 : sz ≤ 65536) : inR (volL p s sz) 2 = some ⟨2, 0, 1, sz, ⟨#[]⟩⟩ := by
  unfold inR
  rw [if_pos (by decide), show keyL 1 2 [] 0 = kI from rfl, vol_look h h0 h1, if_neg kE_kI, if_pos rfl]
  show decO (valI sz) = _
  unfold decO inoS valI
  rw [ba_data, dec_val h0 h1]
  rfl
theorem num_toE : numS toE = 2 := by kernel_rfl
theorem up2 (h : p + s.length ≤ 65536) (h0 : 0 ≤ sz) (h1 : sz ≤ 65536) : upS (volL p s sz) 2 = (1, 1) := by
  obtain ⟨e, he, hk, hv⟩ := vol_has (p := p) (s := s) (sz := sz) (k := kE) (v := toE) (by rw [vol_look h h0 h1, if_pos rfl])
  have hasc := ((okL_iff _).1 (vol_ok h h0 h1)).2
  have hmem := fun x hx => vol_mem h h0 h1 (x := x) hx
  unfold upS
  generalize volL p s sz = L at he hasc hmem ⊢
  obtain ⟨a, b, rfl⟩ := List.append_of_mem he
  have hp := Asc.parts hasc
  have none_of : ∀ x, x ∈ a ++ e :: b → key x ≠ key e → ¬ ((keptS x).f0 = 2 ∧ numS x.f1 = 2) := fun x hx hne hh => by
    rcases hmem x hx with ⟨q, _⟩ | ⟨q, _⟩ | ⟨q, _⟩ | ⟨j, hj, q, _⟩
    · rw [(kept1 q).1] at hh; exact absurd hh.1 (show ¬ (1 : Int) = 2 by decide)
    · rw [(keptI q).1] at hh; exact absurd hh.1 (show ¬ (1 : Int) = 2 by decide)
    · exact hne (q.trans hk.symm)
    · rw [(keptC (js_lt h hj) q).1] at hh; exact absurd hh.1 (show ¬ (3 : Int) = 2 by decide)
  rw [List.foldl_append, List.foldl_cons, up_none a 2 (fun x hx => none_of x (by simp [hx]) (fun q => by
    have := hp.2.2 x hx e (List.mem_cons_self ..)
    rw [q, bl_irrefl] at this; cases this))]
  rw [up_none b 2 (fun x hx => none_of x (by simp [hx]) (fun q => by
    have := (Asc.cons hp.2.1).1 x hx
    rw [q, bl_irrefl] at this; cases this))]
  unfold upT
  rw [(keptE hk).1, hv, num_toE]
  rw [if_pos (show (2 : Int) = 2 ∧ (2 : Int) = 2 from ⟨rfl, rfl⟩)]
  show (wrap64 (0 + 1), (1 : Int)) = (1, 1)
  rw [w64 (by decide) (by decide)]
  rfl
theorem bt_get_ (v : ByteArray) (i : Nat) (h : i < v.data.toList.length) : bt v (i : Int) = ((v.data.toList.getD i 0).toNat : Int) := by
  have := bt_get v i h
  rw [this, List.getD_eq_getElem?_getD, List.getElem?_eq_getElem h, Option.getD_some]
/-- One item goes with its inode. -/
theorem vol_one (h : p + s.length ≤ 65536) (h0 : 0 ≤ sz) (h1 : sz ≤ 65536) {x : It} (hx : x ∈ volL p s sz) : oneB (volL p s sz) x = true ↔ ∀ j ∈ js p s.length, key x = kc 2 j → tl p s j ≠ [] → (j : Int) * 128 + ((tl p s j).length : Int) ≤ sz := by
  have i1 := inR1 h h0 h1
  have i2 := inR2 h h0 h1
  have mk : ∀ {y : KItm}, pe x = 0 → keptS x = y → (oneB (volL p s sz) x = fitsS (sR (volL p s sz)) y) := fun hp hy => by
    unfold oneB; rw [hp, hy]; rfl
  rcases vol_mem h h0 h1 hx with ⟨q, e⟩ | ⟨q, e⟩ | ⟨q, e⟩ | ⟨j, hj, q, e, ht⟩
  · rw [mk (kept1 q).2 (kept1 q).1]
    refine ⟨fun _ j _ hk => absurd (q.symm.trans hk) (fun e => kc_k1 j e.symm), fun _ => ?_⟩
    show (inR (volL p s sz) 1).isSome = true
    rw [i1]; rfl
  · rw [mk (keptI q).2 (keptI q).1]
    refine ⟨fun _ j _ hk => absurd (q.symm.trans hk) (fun e => kc_kI j e.symm), fun _ => ?_⟩
    show (inR (volL p s sz) 2).isSome = true
    rw [i2]; rfl
  · rw [mk (keptE q).2 (keptE q).1]
    refine ⟨fun _ j _ hk => absurd (q.symm.trans hk) (fun e => kc_kE j e.symm), fun _ => ?_⟩
    show ((inR (volL p s sz) 1).isSome && (inR (volL p s sz) (numS x.f1)).isSome && ((inR (volL p s sz) 1).getD zI).kd == 1) = true
    rw [e, num_toE, i1, i2]; rfl
  · have hj5 := js_lt h hj
    rw [mk (keptC hj5 q).2 (keptC hj5 q).1]
    have hlen : (x.f1.size : Int) = ((tl p s j).length : Int) := by rw [← e, Array.length_toList]; rfl
    have hpos : 0 < (tl p s j).length := List.length_pos_iff.2 ht
    have h128 := tl_len p s j
    have hb : bt x.f1 ((x.f1.size : Int) - 1) ≠ 0 := by
      rw [hlen, show ((tl p s j).length : Int) - 1 = (((tl p s j).length - 1 : Nat) : Int) by omega, bt_get_ x.f1 _ (by rw [e]; exact Nat.sub_lt hpos Nat.one_pos), e]
      intro hz
      refine tl_last p s j ht (UInt8.toNat_inj.1 ?_)
      rw [Int.natCast_eq_zero.1 hz]; rfl
    have hf : fitsS (sR (volL p s sz)) ⟨3, 2, ⟨#[]⟩, (j : Int), x.f1⟩ = decide ((j : Int) * 128 + ((x.f1.size : Int) - 1) < sz) := by
      show ((inR (volL p s sz) 2).isSome && ((inR (volL p s sz) 2).getD zI).kd == 2 && decide (0 ≤ (x.f1.size : Int) - 1) && decide ((x.f1.size : Int) - 1 < 128) && bt x.f1 ((x.f1.size : Int) - 1) != 0 && decide ((j : Int) * 128 + ((x.f1.size : Int) - 1) < ((inR (volL p s sz) 2).getD zI).sz)) = _
      rw [i2, (bne_iff_ne.2 hb : (bt x.f1 ((x.f1.size : Int) - 1) != 0) = true), decide_eq_true (show 0 ≤ (x.f1.size : Int) - 1 by omega), decide_eq_true (show (x.f1.size : Int) - 1 < 128 by omega)]
      exact Bool.true_and _
    rw [hf, decide_eq_true_eq, hlen]
    refine ⟨fun hd j' hj' hk _ => ?_, fun hd => ?_⟩
    · have := (kc_inj (by decide) (by decide) hj5 (js_lt h hj') (q.symm.trans hk)).2
      subst this
      omega
    · have := hd j hj q ht
      omega
theorem vol_good (h : p + s.length ≤ 65536) (h0 : 0 ≤ sz) (h1 : sz ≤ 65536) : goodR (volL p s sz) = true ↔ ∀ j ∈ js p s.length, tl p s j ≠ [] → (j : Int) * 128 + ((tl p s j).length : Int) ≤ sz := by
  unfold goodR
  rw [vol_ok h h0 h1, inR1 h h0 h1]
  have hlk : (volL p s sz).all (lkR (volL p s sz) ((volL p s sz).length + 1)) = true := by
    rw [List.all_eq_true]
    intro x hx
    unfold lkR
    rcases vol_mem h h0 h1 hx with ⟨q, e⟩ | ⟨q, e⟩ | ⟨q, e⟩ | ⟨j, hj, q, e, ht⟩
    · rw [(kept1 q).1]; exact if_neg (show ¬ ((1 : Int) = 1 ∧ ¬ (1 : Int) = 1) by decide)
    · rw [(keptI q).1]
      rw [if_pos (show (1 : Int) = 1 ∧ ¬ (2 : Int) = 1 by decide)]
      show (if IntKind.u64.wrap (upS (volL p s sz) 2).1 = IntKind.u64.wrap ((inR (volL p s sz) 2).getD zI).ln then (if ((inR (volL p s sz) 2).getD zI).kd = 1 then _ else true) else false) = true
      rw [up2 h h0 h1, inR2 h h0 h1]
      refine (if_pos ?_).trans (if_neg ?_)
      · rfl
      · show ¬ (2 : Int) = 1
        decide
    · rw [(keptE q).1]; exact if_neg (show ¬ ((2 : Int) = 1 ∧ ¬ (1 : Int) = 1) by decide)
    · rw [(keptC (js_lt h hj) q).1]; exact if_neg (fun hh => absurd hh.1 (show ¬ (3 : Int) = 1 by decide))
  rw [hlk, Bool.and_true]
  show (true && ((1 : Int) == 1 && (volL p s sz).all (oneB (volL p s sz)))) = true ↔ _
  rw [Bool.true_and, show ((1 : Int) == 1) = true from rfl, Bool.true_and, List.all_eq_true]
  constructor
  · intro ha j hj ht
    have hm := mid_kc h hj
    rw [if_neg ht] at hm
    have hl : (look (volL p s sz) (kc 2 j)) = look (apl [newI] (wrC [newI] 2 p s)) (kc 2 j) := by
      rw [vol_look h h0 h1, if_neg (fun e => kc_kE j e.symm), if_neg (fun e => kc_kI j e.symm)]
    unfold lk at hm
    obtain ⟨v, hv, _⟩ := Option.map_eq_some_iff.1 hm
    obtain ⟨x, hx, hk, _⟩ := vol_has (hl.trans hv)
    exact (vol_one h h0 h1 hx).1 (ha x hx) j hj hk ht
  · intro ha x hx
    exact (vol_one h h0 h1 hx).2 (fun j hj _ ht => ha j hj ht)
end
/-! ### Where the last byte that is not zero ends -/
def endN (p : Nat) (s : List UInt8) : Nat → Nat
  | 0 => 0
  | i + 1 => if s.getD i 0 = 0 then endN p s i else p + i + 1
theorem endN_ge (p : Nat) (s : List UInt8) : ∀ i j, j < i → s.getD j 0 ≠ 0 → p + j + 1 ≤ endN p s i
  | 0, j, h, _ => by omega
  | i + 1, j, h, hj => by
    unfold endN
    by_cases hz : s.getD i 0 = 0
    · rw [if_pos hz]
      exact endN_ge p s i j (by
        rcases Nat.lt_succ_iff_lt_or_eq.1 h with h | h
        · exact h
        · rw [h] at hj; exact absurd hz hj) hj
    · rw [if_neg hz]; omega
theorem endN_is (p : Nat) (s : List UInt8) : ∀ i, endN p s i = 0 ∨ ∃ j, j < i ∧ s.getD j 0 ≠ 0 ∧ endN p s i = p + j + 1
  | 0 => .inl rfl
  | i + 1 => by
    unfold endN
    by_cases hz : s.getD i 0 = 0
    · rw [if_pos hz]
      rcases endN_is p s i with h | ⟨j, h1, h2, h3⟩
      · exact .inl h
      · exact .inr ⟨j, by omega, h2, h3⟩
    · rw [if_neg hz]; exact .inr ⟨i, by omega, hz, rfl⟩
theorem sized_iff {p : Nat} {s : List UInt8} {sz : Int} (h : p + s.length ≤ 65536) (h0 : 0 ≤ sz) (h1 : sz ≤ 65536) : goodR (volL p s sz) = true ↔ (endN p s s.length : Int) ≤ sz := by
  rw [vol_good h h0 h1]
  constructor
  · intro ha
    rcases endN_is p s s.length with e | ⟨i, hi, hz, e⟩
    · rw [e]; exact h0
    · rw [e]
      have hg := tl_get p s (p + i)
      rw [if_pos ⟨by omega, by omega⟩, show p + i - p = i by omega] at hg
      have hlt : (p + i) % 128 < (tl p s ((p + i) / 128)).length := by
        refine Nat.lt_of_not_le (fun hle => hz ?_)
        rw [← hg, List.getD_eq_getElem?_getD, List.getElem?_eq_none hle]; rfl
      have := ha ((p + i) / 128) ((js_mem _ _ _).2 ⟨p + i, by omega, by omega, rfl⟩) (fun e => by rw [e] at hlt; exact Nat.not_lt_zero _ hlt)
      omega
  · intro he j hj ht
    have hpos : 0 < (tl p s j).length := List.length_pos_iff.2 ht
    have h128 := tl_len p s j
    have hl := tl_last p s j ht
    have hg := tl_get p s (j * 128 + ((tl p s j).length - 1))
    have hdiv : (j * 128 + ((tl p s j).length - 1)) / 128 = j := by omega
    have hmod : (j * 128 + ((tl p s j).length - 1)) % 128 = (tl p s j).length - 1 := by omega
    rw [hdiv, hmod] at hg
    by_cases hin : p ≤ j * 128 + ((tl p s j).length - 1) ∧ j * 128 + ((tl p s j).length - 1) < p + s.length
    · rw [if_pos hin] at hg
      rw [hg] at hl
      have := endN_ge p s s.length _ (by omega) hl
      omega
    · rw [if_neg hin] at hg
      exact absurd hg hl
/-- Along "a" one comes to the file. -/
theorem sized_walk {p : Nat} {s : List UInt8} {sz : Int} (h : p + s.length ≤ 65536) (h0 : 0 ≤ sz) (h1 : sz ≤ 65536) {v : VS} (hv : lookS (volL p s sz) = some v) : walkS (volL p s sz) v true 8 [⟨#[97]⟩] 1 = (2, 0) := by
  have hr := look_rt hv
  have hk1 : v.kd 1 = 1 := hr.root
  have he : entryS (volL p s sz) 1 ⟨#[97]⟩ = 2 := by
    unfold entryS
    rw [if_pos (by decide), show keyL 2 1 (⟨#[97]⟩ : ByteArray).data.toList 0 = kE from rfl, vol_look h h0 h1, if_pos rfl]
    exact num_toE
  have hk2 : v.kd 2 = 2 := by
    unfold VS.kd
    rw [ino_eq hr.inv hr.ok (by decide), inR2 h h0 h1]; rfl
  show goS _ _ _ _ _ _ = _
  rw [goS, if_pos hk1, he, if_neg (by decide), if_neg (fun hh => by rw [hk2] at hh; exact absurd hh.1 (by decide)), goS]
end Go.Proofs.YthbljhmjppjcjaaGreatDoor.Z
end

section
/- What a reading of an argument as data gives a contract: the values of a kind (Kd), well formed, and their bulk. -/
namespace Go.Proofs.YthbljhmjppjcjaaGreatDoor.Z
open Go.ChangeShapes Go.WideShapes Go.ChangeAt Go.RowKit Go.Deep Go.Proofs.YthbljhmjppjcjaaGreatDoorW.PrintWords Go.Proofs.YthbljhmjppjcjaaGreatDoorW.PrintLast
set_option linter.unusedVariables false
/-- Every reading of type t's cells is one of d, is G, and is of bulk B at least. -/
def Opens {α : Type} (P : Program) (t : TypeId) (d : Kd α) (G : α → Prop) (B : α → Nat) : Prop :=
  d.sz = P.cellsOf t ∧ ∀ {H : Type} {enc : TypeId × Value → H} {w : World} {base : Nat} {spare : Nat → Bool} {held : Bool} {fuel : Nat} {cs : List Value} {x : DataW H × List MemPlace},
    DataW.trod enc P w base spare held fuel t cs = some x → ∃ a, d.K w a cs ∧ G a ∧ B a ≤ Rows.uptoBulk x.1
theorem Opens.bool {P : Program} {t : TypeId} (ht : P.underlying t = some .bool) (hc : P.cellsOf t = 1) : Opens P t Kd.bool (fun _ => True) (fun _ => 1) := by
  refine ⟨hc.symm, fun h => ?_⟩
  obtain ⟨b, rfl, rfl⟩ := DataW.trod_bool ht h
  exact ⟨b, rfl, trivial, by simp [Rows.uptoBulk]⟩
theorem Opens.int {P : Program} {t : TypeId} {k : IntKind} (ht : P.underlying t = some (.int k)) (hc : P.cellsOf t = 1) : Opens P t (Kd.int k) (fun n => (Lit.int k n).wf = true) (fun _ => 1) := by
  refine ⟨hc.symm, fun h => ?_⟩
  obtain ⟨b, rfl, rfl, hw⟩ := DataW.trod_int ht h
  exact ⟨b, rfl, hw, by simp [Rows.uptoBulk]⟩
theorem Opens.string {P : Program} {t : TypeId} (ht : P.underlying t = some .string) (hc : P.cellsOf t = 1) : Opens P t Kd.string (fun s => s.size ≤ maxLen) (fun s => s.size + 1) := by
  refine ⟨hc.symm, fun h => ?_⟩
  obtain ⟨b, rfl, rfl, hw⟩ := DataW.trod_string ht h
  exact ⟨b, rfl, hw, by simp [Rows.uptoBulk]⟩
theorem bulk_len {H : Type} (l : List (DataW H)) {α : Type} {B : α → Nat} (xs : List α) (hl : xs.length = l.length) (h : ∀ (i : Nat) (a : α) (y : DataW H), xs[i]? = some a → l[i]? = some y → B a ≤ Rows.uptoBulk y) : (xs.map B).sum ≤ Rows.uptoBulkAll l := by
  induction l generalizing xs with
  | nil => have : xs = [] := List.eq_nil_of_length_eq_zero hl; subst this; simp [Rows.uptoBulkAll]
  | cons y l ih =>
    cases xs with
    | nil => simp at hl
    | cons a xs =>
      simp only [List.map_cons, List.sum_cons, Rows.uptoBulkAll]
      have h0 := h 0 a y rfl rfl
      have h1 := ih xs (by simpa using hl) (fun i a y ha hy => h (i + 1) a y (by simpa using ha) (by simpa using hy))
      omega
theorem list_of_each {α : Type} (p : Nat → α → Prop) : ∀ n : Nat, (∀ i, i < n → ∃ a, p i a) → ∃ l : List α, l.length = n ∧ ∀ i a, l[i]? = some a → p i a
  | 0, _ => ⟨[], rfl, fun i a h => by simp at h⟩
  | n + 1, h => by
    obtain ⟨l, hl, hp⟩ := list_of_each p n (fun i hi => h i (by omega))
    obtain ⟨a, ha⟩ := h n (by omega)
    refine ⟨l ++ [a], by simp [hl], fun i b hb => ?_⟩
    rcases Nat.lt_or_ge i l.length with hi | hi
    · rw [List.getElem?_append_left hi] at hb; exact hp i b hb
    · have hi2 : i = l.length := by
        have := (List.getElem?_eq_some_iff.1 hb).1
        simp at this; omega
      subst hi2
      have hb2 : a = b := by simpa using hb
      subst hb2
      rw [hl]; exact ha
/-- A slice, opened. -/
theorem Opens.row {α : Type} {P : Program} {t e : TypeId} {d : Kd α} {G : α → Prop} {B : α → Nat} (ht : P.underlying t = some (.slice e)) (hO : Opens P e d G B) (hpos : 0 < P.cellsOf e)
    {H : Type} {enc : TypeId × Value → H} {w : World} {base : Nat} {spare : Nat → Bool} {held : Bool} {fuel : Nat} {cs : List Value} {x : DataW H × List MemPlace} (h : DataW.trod enc P w base spare held fuel t cs = some x) :
    ∃ (A : Option Addr) (c : Nat) (l : List α), cs = [.slice A l.length c] ∧ l.length ≤ c ∧ c ≤ maxLen ∧ Kd.C d w A l.length l ∧ (∀ a ∈ l, G a) ∧ (l.map B).sum + 1 ≤ Rows.uptoBulk x.1 ∧ (x.1 = .nil ∧ l = [] ∨ ∃ el sp, x.1 = .slice el sp ∧ el.length = l.length) := by
  rcases DataW.trod_slice ht h with ⟨rfl, rfl⟩ | ⟨a, len, cap, elems, rest, n, _, rfl, rfl, hb, hl, hm, hlen, hel, _, _⟩
  · exact ⟨none, 0, [], rfl, Nat.le_refl _, Nat.zero_le _, Kd.C_nil _ _, by simp, by simp [Rows.uptoBulk], Or.inl ⟨rfl, rfl⟩⟩
  · have each : ∀ i, i < len → ∃ a' : α, ∃ cs' y, w.cells? base (a.add (i * P.cellsOf e)) (P.cellsOf e) = some cs' ∧ elems[i]? = some y ∧ d.K w a' cs' ∧ G a' ∧ B a' ≤ Rows.uptoBulk y.1 := by
      intro i hi
      have h1 := hel i hi
      obtain ⟨y, hy⟩ : ∃ y, elems[i]? = some y := ⟨elems[i]'(by omega), List.getElem?_eq_getElem (by omega)⟩
      rw [hy, Option.bind_eq_some_iff] at h1
      obtain ⟨cs', hcs, htr⟩ := h1
      obtain ⟨a', hK, hG, hB⟩ := hO.2 htr
      exact ⟨a', cs', y, hcs, hy, hK, hG, hB⟩
    obtain ⟨l, hll, hp⟩ := list_of_each _ len each
    subst hll
    refine ⟨some a, cap, l, rfl, hl, hm, ⟨rfl, by unfold maxLen at hm; omega, fun _ => ⟨a, rfl, fun j p hj => ?_⟩⟩, ?_, ?_, Or.inr ⟨_, _, rfl, by simpa using hlen⟩⟩
    · obtain ⟨cs', y, hcs, _, hK, _, _⟩ := hp j p hj
      obtain ⟨_, hln, hc⟩ := World.cells?_some hcs
      refine ⟨cs', by rw [hln, hO.1], hK, fun i u hu => ?_⟩
      have hi : i < P.cellsOf e := by rw [← hln]; exact (List.getElem?_eq_some_iff.1 hu).1
      have := hc i hi
      rw [hu] at this
      rw [hO.1, ← this]
      congr 1
      have hs : a.spot = none := by
        have h0 := hc 0 hpos
        rw [List.getElem?_eq_getElem (by omega)] at h0
        cases hsp : a.spot with
        | none => rfl
        | some s =>
          rcases Nat.eq_zero_or_pos (j * P.cellsOf e) with hz | hz
          · rw [hz] at h0
            have : w.cell? a = some _ := h0
            unfold World.cell? at this
            rw [hsp] at this
            split at this <;> simp at this
          · have hl0 : 0 < l.length := by have := (List.getElem?_eq_some_iff.1 hj).1; omega
            obtain ⟨p0, hp0⟩ : ∃ p0, l[0]? = some p0 := ⟨l[0], List.getElem?_eq_getElem hl0⟩
            obtain ⟨cs0, y0, hcs0, _, _, _, _⟩ := hp 0 p0 hp0
            obtain ⟨_, hln0, hc0⟩ := World.cells?_some hcs0
            have h00 := hc0 0 hpos
            rw [List.getElem?_eq_getElem (by omega), Nat.zero_mul] at h00
            have : w.cell? a = some _ := h00
            unfold World.cell? at this
            rw [hsp] at this
            split at this <;> simp at this
      obtain ⟨b, o, s⟩ := a
      simp only at hs
      subst hs
      rw [add_at, add_at, add_at, Nat.add_assoc]
    · intro b hb
      obtain ⟨i, hi⟩ := List.getElem?_of_mem hb
      exact (hp i b hi).choose_spec.choose_spec.2.2.2.1
    · simp only [Rows.uptoBulk]
      have := bulk_len (elems.map (·.1)) (B := B) l (by simp [hlen]) (fun i b y hb hy => by
        obtain ⟨cs', y', _, hy', _, _, hB⟩ := hp i b hb
        rw [List.getElem?_map, hy'] at hy
        simp at hy
        subst hy
        exact hB)
      omega
end Go.Proofs.YthbljhmjppjcjaaGreatDoor.Z
end

section
namespace Go.Proofs.YthbljhmjppjcjaaGreatDoor.Z
open Go.ChangeShapes Go.WideShapes Go.ChangeAt Go.RowKit Go.Deep Go.Proofs.YthbljhmjppjcjaaGreatDoorW.PrintWords
set_option linter.unusedVariables false
end Go.Proofs.YthbljhmjppjcjaaGreatDoor.Z
end
