/- This session's own texts, laid together (a part that several claims share). -/
import Derived.Test.YthbljhmjppjcjaaGreatDoorMB2
import Derived.Test.YthbljhmjppjcjaaGreatDoorMB1
import Derived.Lib.AppendZeros
import Derived.LoopTactic
import Derived.Lib.IndexLaws
import Derived.Lib.Join
import Derived.Lib.SmallJoins
import Derived.Test.YthbljhmjppjcjaaGreatDoorProg
import Derived.Laws.BitsLemmas
import Derived.Laws.Bits64
import Derived.Lib.BitFns
section
/- dirs: a volume is looked through once (sync.Once of one goroutine); Right. -/
namespace Go.Proofs.YthbljhmjppjcjaaGreatDoor.Z
open Go.RowKit Go.Proofs.YthbljhmjppjcjaaGreatDoorW.PrintWords Go.Proofs.YthbljhmjppjcjaaGreatDoorW.PrintLast Go.Proofs.YthbljhmjppjcjaaGreatDoorW.PrintMore
set_option linter.unusedVariables false
set_option linter.unusedSimpArgs false
attribute [local go_sem ↓] Go.wp_at_zero Go.wp_at_succ
theorem storeV (a : Addr) (x : Value) (u : FrameMode) (w : World) (hc : w.cell? a = some x) (hz : w.frozen? a = false) :
    CallsD Tryz.prog 102 #[.pointer (some a), .bool true] u w fun e u' w' => u' = u ∧ (e = .returned (.tuple #[]) ∧ w' = (w.setCell a (.int .u32 1)).drew) := by
  have hc' : w.drew.cell? a = some x := hc
  have hz' : w.drew.frozen? a = false := hz
  have hst := run_call_store (P := Tryz.prog) Tryz.func118 (by kernel_rfl) (by kernel_rfl) (by kernel_rfl) (by kernel_rfl) (k := .u32) (y := 1) hc' hz'
  go_enter_d Tryz.func102, Tryz.ntmps102
  go_wp2
  go_region_calls
  all_goals (go_end0; first | exact ⟨rfl, rfl, rfl⟩ | exact ⟨rfl, rfl⟩ | exact rfl)
set_option maxRecDepth 100000 in
set_option maxHeartbeats 1600000 in
theorem unlockV (a : Addr) (u : FrameMode) (w : World) (hc : w.cell? a = some (.int .i32 1)) (hz : w.frozen? a = false) :
    CallsD Tryz.prog 101 #[.pointer (some a)] u w fun e u' w' => u' = u ∧ (e = .returned (.tuple #[]) ∧ w' = w.setCell a (.int .i32 0)) := by
  have hd := disable
  have he := enable
  have hr := releaseMerge
  have hadd := run_call_add (P := Tryz.prog) Tryz.func132 (by kernel_rfl) (by kernel_rfl) (by kernel_rfl) .i32 (by kernel_rfl) (y := -1) (s := 0) hc hz (by simp [go_sem]; rfl)
  have hcv := run_convert_to_unsafe (P := Tryz.prog) (src := 210) (dst := 179) Tryz.underlying210 Tryz.underlying179 (by kernel_rfl) hc
  go_enter_d Tryz.func101, Tryz.ntmps101
  go_wp2
  go_end0
  go_wp2
  go_end0
  first | exact ⟨rfl, rfl, rfl⟩ | exact ⟨rfl, rfl⟩ | exact rfl
set_option maxRecDepth 100000 in
set_option maxHeartbeats 1600000 in
theorem lockV (a : Addr) (w : World) (hc : w.cell? a = some (.int .i32 0)) (hz : w.frozen? a = false) :
    Calls Tryz.prog 100 #[.pointer (some a)] w fun e w' => e = .returned (.tuple #[]) ∧ w' = w.setCell a (.int .i32 1) := by
  have hd := disable
  have he := enable
  have ha := acquire
  have hcas := run_call_cas_hit (P := Tryz.prog) Tryz.func127 (by kernel_rfl) (by kernel_rfl) (by kernel_rfl) .i32 (by kernel_rfl) (y := 1) hc hz
  have hc' : (w.setCell a (.int .i32 1)).cell? a = some (.int .i32 1) := World.cell?_setCell_same w a _ hc
  have hcv := run_convert_to_unsafe (P := Tryz.prog) (src := 210) (dst := 179) Tryz.underlying210 Tryz.underlying179 (by kernel_rfl) hc'
  go_enter Tryz.func100, Tryz.ntmps100
  go_wp2
  first | go_end0 | (simp only [Exit.inBlock, Exit.then]; refine bodyPost_ret (results_none rfl _ _ _) rfl ?_) | refine bodyPost_ret (results_none rfl _ _ _) rfl ?_
  go_wp2
  go_end0
  exact ⟨rfl, rfl⟩
theorem VolR.setJ {w : World} {g base : Nat} {it : Value} {d m sm d' m' : Int} {r : Bool} {s : VS} (j : Nat) (u : Value) (h : VolR w g base it d m sm r s)
    (he : ∀ va bi bu, (#[it, .int .u32 d, .int .i32 m, .int .u32 sm, .bool r, va, .map (some bi), .map (some bu)] : Array Value).setIfInBounds j u = #[it, .int .u32 d', .int .i32 m', .int .u32 sm, .bool r, va, .map (some bi), .map (some bu)]) : VolR (w.setCell ⟨g, j, none⟩ u) g base it d' m' sm r s := by
  obtain ⟨va, bi, bu, hG, hA, hI, hU, hbi, hbu, hne, hgb, hok⟩ := h
  refine ⟨va, bi, bu, ?_, row_setg hA hgb j _, hI.move (Below.heap_setCell _ ⟨g, j, none⟩ _ bi (by show bi ≠ g; omega)), hU.move (Below.heap_setCell _ ⟨g, j, none⟩ _ bu (by show bu ≠ g; omega)), hbi, hbu, hne, hgb, hok⟩
  have := blk_set hG j u
  rw [he va bi bu] at this
  exact this
theorem VolR.lower {w : World} {g base base' : Nat} {it : Value} {d m sm : Int} {r : Bool} {s : VS} (h : VolR w g base it d m sm r s) (hb : base' ≤ base) (hg : g < base') : VolR w g base' it d m sm r s := by
  obtain ⟨va, bi, bu, hG, hA, hI, hU, hbi, hbu, hne, hgb, hok⟩ := h
  exact ⟨va, bi, bu, hG, Kd.R_lower hA hb, hI, hU, Nat.le_trans hb hbi, Nat.le_trans hb hbu, hne, hg, hok⟩
theorem VolR.drew {w : World} {g base : Nat} {it : Value} {d m sm : Int} {r : Bool} {s : VS} (h : VolR w g base it d m sm r s) : VolR w.drew g base it d m sm r s := h.below (below_drew1 (Below.refl _ _))
set_option maxRecDepth 100000 in
set_option maxHeartbeats 3200000 in
theorem slowV (k : Nat) (g : Nat) (A : Option Addr) (c : Nat) (l : List VIT) (sm : Int) (o : Option VS) (w : World) (hb : w.heap[g]? = some (volO (.slice A l.length c) (.slice none 0 0) (.map none) (.map none) 0 0 sm false)) (hF : ∀ W', KeepBut w W' g none → Kd.C k71 W' A l.length l) (hc : l.length ≤ c) (h : lookF k l = some o) :
    Calls Tryz.prog 79 #[.pointer (some ⟨g, 1, none⟩), .func (.func 58) #[.pointer (some ⟨g, 0, none⟩)] #[]] w fun e w' => e = .returned (.tuple #[]) ∧ Fr g w w' ∧ (∀ s, o = some s → VolR w' g w.heap.size (.slice A l.length c) 1 0 sm true s) ∧ ∃ va vi vu, w'.heap[g]? = some (volO (.slice A l.length c) va vi vu 1 0 sm o.isSome) := by
  have hnot : ∀ (x : Bool) (w : World), (Op.unary .not (.bool x)).run Tryz.prog w = .ok (.bool (!x)) w := fun _ _ => rfl
  have HB := Aside0.mk hb
  have HF := Aside0.mk hF
  have HCC := Aside0.mk hc
  have H := Aside0.mk h
  have GS := Aside0.mk (blk_lt hb)
  clear hb hF hc h
  go_enter_defers Tryz.func79, Tryz.ntmps79
  go_wp2_with (go_at_call 100; refine (lockV ⟨g, 2, none⟩ _ ((blk_cell HB.out 2).trans rfl) (blk_frozen HB.out 2)).mono ?_; rintro e w1 ⟨rfl, h1⟩; have B1 := Aside0.mk (show w1.heap[g]? = some (volO (.slice A l.length c) (.slice none 0 0) (.map none) (.map none) 0 1 sm false) by rw [h1]; exact blk_set HB.out 2 _); have F1 := Aside0.mk (show Fr g w w1 by rw [h1]; exact (Fr.refl g w).setg 2 _); have S1 := Aside0.mk (show w1.heap.size = w.heap.size by rw [h1]; simp [World.setCell]); clear h1)
  go_wp2_with (first | (go_at_call 78; refine (loads_one ⟨g, 1, none⟩ 0 _ ((blk_cell B1.out 1).trans rfl)).mono ?_; rintro e w' ⟨rfl, rfl⟩) | (go_at_call 58; refine (look_calls k g A c l 0 1 sm o _ B1.out (fun W' hk => HF.out W' (F1.out.1.trans hk (.inl rfl))) HCC.out H.out).mono ?_; rintro e w2 ⟨rfl, hf2, hv2, hb2⟩; have F2 := Aside0.mk (F1.out.trans hf2); have V2 := Aside0.mk (fun s hs => (hv2 s hs).lower (Nat.le_of_eq S1.out.symm) GS.out); have B2 := Aside0.mk hb2; clear hf2 hv2 hb2))
  obtain ⟨va, vi, vu, hB2⟩ := B2.out
  have C2 := Aside0.mk hB2
  clear hB2
  refine leaves_cons (f := 102) (args := #[.pointer (some ⟨g, 1, none⟩), .bool true]) (by simp) (by simp [go_sem]) ?_
  refine (storeV ⟨g, 1, none⟩ (.int .u32 0) .returning _ ((blk_cell C2.out 1).trans rfl) (blk_frozen C2.out 1)).mono ?_
  rintro e u' w3 ⟨rfl, rfl, h3⟩
  have C3 := Aside0.mk (show w3.heap[g]? = some (volO (.slice A l.length c) va vi vu 1 1 sm o.isSome) by rw [h3]; exact blk_drew (blk_set C2.out 1 _))
  have F3 := Aside0.mk (show Fr g w w3 by rw [h3]; exact (F2.out.setg 1 _).below (below_drew1 (Below.refl _ _)))
  have V3 := Aside0.mk (show ∀ s, o = some s → VolR w3 g w.heap.size (.slice A l.length c) 1 1 sm true s from fun s hs => by rw [h3]; exact (VolR.setJ 1 (.int .u32 1) (V2.out s hs) (fun _ _ _ => rfl)).drew)
  clear h3 V2 F2 B2 C2
  refine leaves_cons (f := 101) (args := #[.pointer (some ⟨g, 2, none⟩)]) (by simp [settle]) (by simp [go_sem]) ?_
  refine (unlockV ⟨g, 2, none⟩ _ _ ((blk_cell C3.out 2).trans rfl) (blk_frozen C3.out 2)).mono ?_
  rintro e u' w4 ⟨rfl, rfl, h4⟩
  have P4 : Aside0 (Fr g w w4 ∧ (∀ s, o = some s → VolR w4 g w.heap.size (.slice A l.length c) 1 0 sm true s) ∧ ∃ va vi vu, w4.heap[g]? = some (volO (.slice A l.length c) va vi vu 1 0 sm o.isSome)) :=
    ⟨by rw [h4]; exact F3.out.setg 2 _, fun s hs => by rw [h4]; exact VolR.setJ 2 (.int .i32 0) (V3.out s hs) (fun _ _ _ => rfl), va, vi, vu, by rw [h4]; exact blk_set C3.out 2 _⟩
  clear h4 V3 F3 C3 HB HF HCC H GS B1 F1 S1
  have P5 := P4.out
  generalize hP : (Fr g w w4 ∧ (∀ s, o = some s → VolR w4 g w.heap.size (.slice A l.length c) 1 0 sm true s) ∧ ∃ va vi vu, w4.heap[g]? = some (volO (.slice A l.length c) va vi vu 1 0 sm o.isSome)) = P at P5
  simp [Leaves, settle, results, Tryz.results79]
  rw [hP]
  exact P5
set_option maxRecDepth 100000 in
set_option maxHeartbeats 1600000 in
theorem right_calls (k : Nat) (g : Nat) (A : Option Addr) (c : Nat) (l : List VIT) (sm : Int) (o : Option VS) (w : World) (hb : w.heap[g]? = some (volO (.slice A l.length c) (.slice none 0 0) (.map none) (.map none) 0 0 sm false)) (hF : ∀ W', KeepBut w W' g none → Kd.C k71 W' A l.length l) (hc : l.length ≤ c) (h : lookF k l = some o) :
    Calls Tryz.prog 33 #[.pointer (some ⟨g, 0, none⟩)] w fun e w' => e = .returned (.bool o.isSome) ∧ Fr g w w' ∧ (∀ s, o = some s → VolR w' g w.heap.size (.slice A l.length c) 1 0 sm true s) := by
  have hnot : ∀ (x : Bool) (w : World), (Op.unary .not (.bool x)).run Tryz.prog w = .ok (.bool (!x)) w := fun _ _ => rfl
  have hmf : ∀ (fn : Fn) (first cap : Array Value) (w : World), (Instr.makeFunc fn first cap).run Tryz.prog w = .ok (.func fn first cap) w := fun _ _ _ _ => rfl
  have HB := Aside0.mk hb
  have HS := Aside0.mk (slowV k g A c l sm o w hb hF hc h)
  clear hb hF hc h
  go_enter Tryz.func33, Tryz.ntmps33
  go_wp2_with (first
    | (go_at_call 57; go_in)
    | (go_at_call 78; refine (loads_one ⟨g, 1, none⟩ 0 _ ((blk_cell HB.out 1).trans rfl)).mono ?_; rintro e w' ⟨rfl, rfl⟩)
    | (go_at_call 79; refine HS.out.mono ?_; rintro e w1 ⟨rfl, hf1, hv1, hb1⟩; have F1 := Aside0.mk hf1; have V1 := Aside0.mk hv1; obtain ⟨va, vi, vu, hg1⟩ := hb1; have q4 : w1.cell? ⟨g, 4, none⟩ = some (.bool o.isSome) := (blk_cell hg1 4).trans rfl; clear hf1 hv1 hg1))
  go_end0
  go_wp2
  go_ret
  exact ⟨rfl, F1.out, V1.out⟩
end Go.Proofs.YthbljhmjppjcjaaGreatDoor.Z
end

section
namespace Go.Proofs.YthbljhmjppjcjaaGreatDoor.Z
open Go.RowKit Go.Proofs.YthbljhmjppjcjaaGreatDoorW.PrintWords Go.Proofs.YthbljhmjppjcjaaGreatDoorW.PrintLast Go.Proofs.YthbljhmjppjcjaaGreatDoorW.PrintMore
attribute [local go_sem] max2_int min2_int max_two min_two max_three min_three max_four min_four   -- for this text's walks alone
set_option linter.unusedVariables false
set_option linter.unusedSimpArgs false
def cmp_isNaN_string.f (a0 : ByteArray) : Option (Bool) := some (a0.toList != a0.toList)
set_option maxHeartbeats 8000000 in
set_option maxRecDepth 100000 in
theorem cmp_isNaN_string.calls (a0 : ByteArray) (r : Bool) (w : World) (h : cmp_isNaN_string.f a0 = some r) :
  Calls Tryz.prog 76 #[.string a0] w fun e w' => e = .returned (.bool r) ∧ Drawn0 w w' := by
 have H : (some (a0.toList != a0.toList)) = some r := h
 clear h
 obtain rfl := Option.some.inj H
 go_enter Tryz.func76, Tryz.ntmps76
 go_wp2
 go_ret
 exact ⟨by first | rfl | (simp; done) | (simp [*]; done), by repeat (first | exact Drawn0.refl _ | apply Drawn0.step)⟩
def cmp_Compare_string.f (a0 : ByteArray) (a1 : ByteArray) : Option (Int) := (cmp_isNaN_string.f a0).bind fun t118 => ((cmp_isNaN_string.f a1).bind fun t119 => (if t118 = true then (if t119 = true then (some 0) else (some (-1))) else (if t119 = true then (some 1) else (if (Op.bytesLess a0.toList a1.toList) = true then (some (-1)) else (if (Op.bytesLess a1.toList a0.toList) = true then (some 1) else (some 0))))))
set_option maxHeartbeats 8000000 in
set_option maxRecDepth 100000 in
theorem cmp_Compare_string.calls (a0 : ByteArray) (a1 : ByteArray) (r : Int) (w : World) (h : cmp_Compare_string.f a0 a1 = some r) :
  Calls Tryz.prog 54 #[.string a0, .string a1] w fun e w' => e = .returned (.int .i64 r) ∧ Drawn0 w w' := by
 have H : ((cmp_isNaN_string.f a0).bind fun t118 => ((cmp_isNaN_string.f a1).bind fun t119 => (if t118 = true then (if t119 = true then (some 0) else (some (-1))) else (if t119 = true then (some 1) else (if (Op.bytesLess a0.toList a1.toList) = true then (some (-1)) else (if (Op.bytesLess a1.toList a0.toList) = true then (some 1) else (some 0))))))) = some r := h
 clear h
 replace H := Option.bind_eq_some_iff.mp H
 obtain ⟨t118, A30, H⟩ := H
 replace H : ((cmp_isNaN_string.f a1).bind fun t119 => (if t118 = true then (if t119 = true then (some 0) else (some (-1))) else (if t119 = true then (some 1) else (if (Op.bytesLess a0.toList a1.toList) = true then (some (-1)) else (if (Op.bytesLess a1.toList a0.toList) = true then (some 1) else (some 0)))))) = some r := H
 have A3 := Aside0.mk A30
 clear A30
 replace H := Option.bind_eq_some_iff.mp H
 obtain ⟨t119, A40, H⟩ := H
 replace H : (if t118 = true then (if t119 = true then (some 0) else (some (-1))) else (if t119 = true then (some 1) else (if (Op.bytesLess a0.toList a1.toList) = true then (some (-1)) else (if (Op.bytesLess a1.toList a0.toList) = true then (some 1) else (some 0))))) = some r := H
 have A4 := Aside0.mk A40
 clear A40
 by_cases c5 : t118 = true
 ·subst c5
  have H1 : (if t119 = true then (some 0) else (some (-1))) = some r := by rw [if_pos rfl] at H; exact H
  clear H
  have H := H1
  clear H1
  by_cases c6 : t119 = true
  ·subst c6
   have H1 : (some 0) = some r := by rw [if_pos rfl] at H; exact H
   clear H
   have H := H1
   clear H1
   obtain rfl := Option.some.inj H
   go_enter Tryz.func54, Tryz.ntmps54
   go_wp2_with (first | ((with_reducible refine gate_callee (f := 76) rfl ?_); refine gl_ (some 8) Tryz.func76 #[.string a0] ?_; (with_reducible refine (cmp_isNaN_string.calls a0 true _ A3.out).mono ?_); rintro e w' ⟨rfl, ⟨nd, rfl⟩⟩; refine ⟨_, rfl, ?_⟩) | ((with_reducible refine gate_callee (f := 76) rfl ?_); refine gl_ (some 10) Tryz.func76 #[.string a1] ?_; (with_reducible refine (cmp_isNaN_string.calls a1 true _ A4.out).mono ?_); rintro e w' ⟨rfl, ⟨nd, rfl⟩⟩; refine ⟨_, rfl, ?_⟩))
   go_ret
   exact ⟨by first | rfl | (simp; done) | (simp [*]; done), by repeat (first | exact Drawn0.refl _ | apply Drawn0.step)⟩
  replace c6 := Bool.eq_false_iff.mpr c6
  subst c6
  have H1 : (some (-1)) = some r := by rw [if_neg (show ¬ (false = true) by decide)] at H; exact H
  clear H
  have H := H1
  clear H1
  obtain rfl := Option.some.inj H
  go_enter Tryz.func54, Tryz.ntmps54
  go_wp2_with (first | ((with_reducible refine gate_callee (f := 76) rfl ?_); refine gl_ (some 8) Tryz.func76 #[.string a0] ?_; (with_reducible refine (cmp_isNaN_string.calls a0 true _ A3.out).mono ?_); rintro e w' ⟨rfl, ⟨nd, rfl⟩⟩; refine ⟨_, rfl, ?_⟩) | ((with_reducible refine gate_callee (f := 76) rfl ?_); refine gl_ (some 10) Tryz.func76 #[.string a1] ?_; (with_reducible refine (cmp_isNaN_string.calls a1 false _ A4.out).mono ?_); rintro e w' ⟨rfl, ⟨nd, rfl⟩⟩; refine ⟨_, rfl, ?_⟩))
  go_ret
  exact ⟨by first | rfl | (simp; done) | (simp [*]; done), by repeat (first | exact Drawn0.refl _ | apply Drawn0.step)⟩
 replace c5 := Bool.eq_false_iff.mpr c5
 subst c5
 have H1 : (if t119 = true then (some 1) else (if (Op.bytesLess a0.toList a1.toList) = true then (some (-1)) else (if (Op.bytesLess a1.toList a0.toList) = true then (some 1) else (some 0)))) = some r := by rw [if_neg (show ¬ (false = true) by decide)] at H; exact H
 clear H
 have H := H1
 clear H1
 by_cases c7 : t119 = true
 ·subst c7
  have H1 : (some 1) = some r := by rw [if_pos rfl] at H; exact H
  clear H
  have H := H1
  clear H1
  obtain rfl := Option.some.inj H
  go_enter Tryz.func54, Tryz.ntmps54
  go_wp2_with (first | ((with_reducible refine gate_callee (f := 76) rfl ?_); refine gl_ (some 8) Tryz.func76 #[.string a0] ?_; (with_reducible refine (cmp_isNaN_string.calls a0 false _ A3.out).mono ?_); rintro e w' ⟨rfl, ⟨nd, rfl⟩⟩; refine ⟨_, rfl, ?_⟩) | ((with_reducible refine gate_callee (f := 76) rfl ?_); refine gl_ (some 10) Tryz.func76 #[.string a1] ?_; (with_reducible refine (cmp_isNaN_string.calls a1 true _ A4.out).mono ?_); rintro e w' ⟨rfl, ⟨nd, rfl⟩⟩; refine ⟨_, rfl, ?_⟩))
  go_ret
  exact ⟨by first | rfl | (simp; done) | (simp [*]; done), by repeat (first | exact Drawn0.refl _ | apply Drawn0.step)⟩
 replace c7 := Bool.eq_false_iff.mpr c7
 subst c7
 have H1 : (if (Op.bytesLess a0.toList a1.toList) = true then (some (-1)) else (if (Op.bytesLess a1.toList a0.toList) = true then (some 1) else (some 0))) = some r := by rw [if_neg (show ¬ (false = true) by decide)] at H; exact H
 clear H
 have H := H1
 clear H1
 by_cases c8 : (Op.bytesLess a0.toList a1.toList) = true
 ·rw [if_pos c8] at H
  have c8b0 : (Op.bytesLess a0.toList a1.toList) = true := c8
  clear c8
  obtain rfl := Option.some.inj H
  go_enter Tryz.func54, Tryz.ntmps54
  go_wp2_with (first | ((with_reducible refine gate_callee (f := 76) rfl ?_); refine gl_ (some 8) Tryz.func76 #[.string a0] ?_; (with_reducible refine (cmp_isNaN_string.calls a0 false _ A3.out).mono ?_); rintro e w' ⟨rfl, ⟨nd, rfl⟩⟩; refine ⟨_, rfl, ?_⟩) | ((with_reducible refine gate_callee (f := 76) rfl ?_); refine gl_ (some 10) Tryz.func76 #[.string a1] ?_; (with_reducible refine (cmp_isNaN_string.calls a1 false _ A4.out).mono ?_); rintro e w' ⟨rfl, ⟨nd, rfl⟩⟩; refine ⟨_, rfl, ?_⟩))
  go_ret
  exact ⟨by first | rfl | (simp; done) | (simp [*]; done), by repeat (first | exact Drawn0.refl _ | apply Drawn0.step)⟩
 rw [if_neg c8] at H
 have c8b0 : (Op.bytesLess a0.toList a1.toList) = false := by simpa using c8
 clear c8
 by_cases c9 : (Op.bytesLess a1.toList a0.toList) = true
 ·rw [if_pos c9] at H
  have c9b0 : (Op.bytesLess a1.toList a0.toList) = true := c9
  clear c9
  obtain rfl := Option.some.inj H
  go_enter Tryz.func54, Tryz.ntmps54
  go_wp2_with (first | ((with_reducible refine gate_callee (f := 76) rfl ?_); refine gl_ (some 8) Tryz.func76 #[.string a0] ?_; (with_reducible refine (cmp_isNaN_string.calls a0 false _ A3.out).mono ?_); rintro e w' ⟨rfl, ⟨nd, rfl⟩⟩; refine ⟨_, rfl, ?_⟩) | ((with_reducible refine gate_callee (f := 76) rfl ?_); refine gl_ (some 10) Tryz.func76 #[.string a1] ?_; (with_reducible refine (cmp_isNaN_string.calls a1 false _ A4.out).mono ?_); rintro e w' ⟨rfl, ⟨nd, rfl⟩⟩; refine ⟨_, rfl, ?_⟩))
  go_ret
  exact ⟨by first | rfl | (simp; done) | (simp [*]; done), by repeat (first | exact Drawn0.refl _ | apply Drawn0.step)⟩
 rw [if_neg c9] at H
 have c9b0 : (Op.bytesLess a1.toList a0.toList) = false := by simpa using c9
 clear c9
 obtain rfl := Option.some.inj H
 go_enter Tryz.func54, Tryz.ntmps54
 go_wp2_with (first | ((with_reducible refine gate_callee (f := 76) rfl ?_); refine gl_ (some 8) Tryz.func76 #[.string a0] ?_; (with_reducible refine (cmp_isNaN_string.calls a0 false _ A3.out).mono ?_); rintro e w' ⟨rfl, ⟨nd, rfl⟩⟩; refine ⟨_, rfl, ?_⟩) | ((with_reducible refine gate_callee (f := 76) rfl ?_); refine gl_ (some 10) Tryz.func76 #[.string a1] ?_; (with_reducible refine (cmp_isNaN_string.calls a1 false _ A4.out).mono ?_); rintro e w' ⟨rfl, ⟨nd, rfl⟩⟩; refine ⟨_, rfl, ?_⟩))
 go_ret
 exact ⟨by first | rfl | (simp; done) | (simp [*]; done), by repeat (first | exact Drawn0.refl _ | apply Drawn0.step)⟩
def item_place_1.f (a0_0 : ByteArray) (a0_1 : ByteArray) (a1 : ByteArray) : Option (Int) := (cmp_Compare_string.f a0_0 a1).bind fun t121 => (some t121)
set_option maxHeartbeats 8000000 in
set_option maxRecDepth 100000 in
theorem item_place_1.calls (a0_0 : ByteArray) (a0_1 : ByteArray) (a1 : ByteArray) (r : Int) (w : World) (h : item_place_1.f a0_0 a0_1 a1 = some r) :
  Calls Tryz.prog 53 #[.agg #[.string a0_0, .string a0_1], .string a1] w fun e w' => e = .returned (.int .i64 r) ∧ Below w.heap.size w w' := by
 have hu71 := Tryz.underlying71
 have HB := Aside0.mk (Below.refl w.heap.size w)
 have H : ((cmp_Compare_string.f a0_0 a1).bind fun t121 => (some t121)) = some r := h
 clear h
 replace H := Option.bind_eq_some_iff.mp H
 obtain ⟨t121, A30, H⟩ := H
 replace H : (some t121) = some r := H
 have A3 := Aside0.mk A30
 clear A30
 obtain rfl := Option.some.inj H
 go_enter Tryz.func53, Tryz.ntmps53
 go_wp2_with (first | ((with_reducible refine gate_dst (N := 2) rfl ?_); refine bx_ (N := 2) (cs := #[.string a0_0, .string a0_1]) (t := 71) ?_; intro gb120 hg w4 hbox hb; have BK120 := Aside0.mk (hbox); have GW120 := ge_ hg; have GE120 := ge_ hg; replace HB := hb_ hb; clear hb hbox hg; obtain ⟨hcz5_0, hcz5_1⟩ := cl2_ BK120; obtain ⟨hfz5_0, hfz5_1⟩ := fz2_ BK120) | ((with_reducible refine gate_callee (f := 54) rfl ?_); refine gl_ (some 8) Tryz.func54 #[.string a0_0, .string a1] ?_; (with_reducible refine (cmp_Compare_string.calls a0_0 a1 t121 _ A3.out).mono ?_); rintro e w' ⟨rfl, ⟨nd, rfl⟩⟩; refine ⟨_, rfl, ?_⟩))
 go_ret
 exact ⟨by first | rfl | (simp [errW_none, errW_some] <;> rfl) | (simp [*, errW_none, errW_some] <;> rfl), bel_⟩
def slices_BinarySearchFunc_api_Item_api_Item_string_fn53.l0 : Nat → List (S71) → ByteArray → Int → Int → Int → Option (Int × Bool)
 | 0, _, _, _, _, _ => none
 | k + 1, x0, x1, x8, x9, x10 => if x9 < x10 then (if 0 ≤ (wrap64 ((IntKind.u64.wrap (wrap64 (x9 + x10))) / 2)) then (if (wrap64 ((IntKind.u64.wrap (wrap64 (x9 + x10))) / 2)) < (x0.length : Int) then ((item_place_1.f ((rd_T71 x0 (wrap64 ((IntKind.u64.wrap (wrap64 (x9 + x10))) / 2))).f0) ((rd_T71 x0 (wrap64 ((IntKind.u64.wrap (wrap64 (x9 + x10))) / 2))).f1) x1).bind fun t123 => (if t123 < 0 then (slices_BinarySearchFunc_api_Item_api_Item_string_fn53.l0 k x0 x1 x8 (wrap64 ((wrap64 ((IntKind.u64.wrap (wrap64 (x9 + x10))) / 2)) + 1)) x10) else (slices_BinarySearchFunc_api_Item_api_Item_string_fn53.l0 k x0 x1 x8 x9 (wrap64 ((IntKind.u64.wrap (wrap64 (x9 + x10))) / 2))))) else (none)) else (none)) else (if x9 < x8 then (if 0 ≤ x9 then (if x9 < (x0.length : Int) then ((item_place_1.f ((rd_T71 x0 x9).f0) ((rd_T71 x0 x9).f1) x1).bind fun t125 => (some (x9, (t125 == 0)))) else (none)) else (none)) else (some (x9, false)))
def slices_BinarySearchFunc_api_Item_api_Item_string_fn53.f (k : Nat) (l0 : List (S71)) (a1 : ByteArray)  : Option (Int × Bool) := slices_BinarySearchFunc_api_Item_api_Item_string_fn53.l0 k l0 a1 (l0.length : Int) 0 (l0.length : Int)
theorem slices_BinarySearchFunc_api_Item_api_Item_string_fn53.mono_l : ∀ k, (∀ y0 y1 y2 y3 y4, LeO (slices_BinarySearchFunc_api_Item_api_Item_string_fn53.l0 k y0 y1 y2 y3 y4) (slices_BinarySearchFunc_api_Item_api_Item_string_fn53.l0 (k + 1) y0 y1 y2 y3 y4))
 | 0 => fun _ _ _ _ _ r h => by simp [slices_BinarySearchFunc_api_Item_api_Item_string_fn53.l0] at h
 | k + 1 => by
  have ih0 := slices_BinarySearchFunc_api_Item_api_Item_string_fn53.mono_l k
  ·intro y0 y1 y2 y3 y4
   unfold slices_BinarySearchFunc_api_Item_api_Item_string_fn53.l0
   repeat' first
   | (with_reducible exact ih0 _ _ _ _ _)
   | (with_reducible exact LeO.refl _)
   | (with_reducible exact LeO.none _)
   | (with_reducible refine LeO.ite ?_ ?_)
   | (with_reducible refine LeO.bind ?_ (fun _ => ?_))
   | exact ih0 _ _ _ _ _
   | exact LeO.none _
   | refine LeO.ite ?_ ?_
   | refine LeO.bind ?_ (fun _ => ?_)
theorem slices_BinarySearchFunc_api_Item_api_Item_string_fn53.mono : ∀ a0 a1 k, LeO (slices_BinarySearchFunc_api_Item_api_Item_string_fn53.f k a0 a1) (slices_BinarySearchFunc_api_Item_api_Item_string_fn53.f (k + 1) a0 a1) := by
 intro a0 a1 k
 have ih0 := slices_BinarySearchFunc_api_Item_api_Item_string_fn53.mono_l k
 unfold slices_BinarySearchFunc_api_Item_api_Item_string_fn53.f
 repeat' first
   | (with_reducible exact ih0 _ _ _ _ _)
   | (with_reducible exact LeO.refl _)
   | (with_reducible exact LeO.none _)
   | (with_reducible refine LeO.ite ?_ ?_)
   | (with_reducible refine LeO.bind ?_ (fun _ => ?_))
   | exact ih0 _ _ _ _ _
   | exact LeO.none _
   | refine LeO.ite ?_ ?_
   | refine LeO.bind ?_ (fun _ => ?_)
set_option maxHeartbeats 8000000 in
set_option maxRecDepth 100000 in
theorem slices_BinarySearchFunc_api_Item_api_Item_string_fn53.calls (k : Nat) (A0 : Option Addr) (c0 : Nat) (l0 : List (S71)) (a1 : ByteArray)  (r1 : Int) (r2 : Bool) (w : World) (hr0 : Kd.C k71 w A0 l0.length l0) (hc0 : l0.length ≤ c0) (h : slices_BinarySearchFunc_api_Item_api_Item_string_fn53.f k l0 a1 = some (r1, r2)) :
  Calls Tryz.prog 52 #[.slice A0 l0.length c0, .string a1, .func (.func 53) #[] #[]] w fun e w' => e = .returned (.tuple #[.int .i64 r1, .bool r2]) ∧ Below w.heap.size w w' := by
 have hu71 := Tryz.underlying71
 have HR0 := Aside0.mk hr0
 have HC0 := Aside0.mk hc0
 clear hr0 hc0
 have HB := Aside0.mk (Below.refl w.heap.size w)
 have H : (slices_BinarySearchFunc_api_Item_api_Item_string_fn53.l0 k l0 a1 (l0.length : Int) 0 (l0.length : Int)) = some (r1, r2) := h
 clear h
 have H' := Aside0.mk H
 clear H
 go_enter Tryz.func52, Tryz.ntmps52
 go_wp2
 go_loopg [9, 10] k (fun kq v9 v10 w' => ∃ (x9_1 : Int) (x10_1 : Int), v9 = .int .i64 x9_1 ∧ v10 = .int .i64 x10_1 ∧ Aside0 (slices_BinarySearchFunc_api_Item_api_Item_string_fn53.l0 kq l0 a1 (l0.length : Int) x9_1 x10_1 = some (r1, r2)) ∧ Aside0 (kq ≤ k) ∧ Aside0 (Below w.heap.size w w'))
 case atStart => exact ⟨(0), ((l0.length : Int)), (by first | rfl | (simp; done) | (simp [*]; done)), (by first | rfl | (simp; done) | (simp [*]; done)), H', ⟨Nat.le_refl _⟩, ⟨bel_⟩⟩
 case round =>
  clear H'
  try clear p2
  obtain ⟨x9_1, x10_1, rfl, rfl, HA, HK1, HB⟩ := hrel
  cases gk with
  | zero => exact absurd HA.out (by simp [slices_BinarySearchFunc_api_Item_api_Item_string_fn53.l0])
  | succ k1 =>
   have H := HA.out
   clear HA
   simp only [slices_BinarySearchFunc_api_Item_api_Item_string_fn53.l0] at H
   by_cases c4 : x9_1 < x10_1
   ·rw [if_pos c4] at H
    have c4b0 : decide (x9_1 < x10_1) = true := decide_eq_true c4
    clear c4
    obtain ⟨ji5, hji5⟩ : ∃ j_ : Int, (wrap64 ((IntKind.u64.wrap (wrap64 (x9_1 + x10_1))) / 2)) = j_ := ⟨_, rfl⟩
    replace H : (if 0 ≤ (ji5) then (if (ji5) < (l0.length : Int) then ((item_place_1.f ((rd_T71 l0 (ji5)).f0) ((rd_T71 l0 (ji5)).f1) a1).bind fun t123 => (if t123 < 0 then (slices_BinarySearchFunc_api_Item_api_Item_string_fn53.l0 k1 l0 a1 (l0.length : Int) (wrap64 ((ji5) + 1)) x10_1) else (slices_BinarySearchFunc_api_Item_api_Item_string_fn53.l0 k1 l0 a1 (l0.length : Int) x9_1 ji5))) else (none)) else (none)) = some (r1, r2) := by first | (rw [hji5] at H; exact H) | (simp only [hji5] at H ⊢; exact H)
    have hji5w : (IntKind.i64.wrap ((IntKind.u64.wrap (wrap64 (x9_1 + x10_1))) / 2)) = ji5 := (i64_w _).trans hji5
    by_cases c6 : 0 ≤ (ji5)
    ·rw [if_pos c6] at H
     have c6b0 : decide (0 ≤ (ji5)) = true := decide_eq_true c6
     clear c6
     by_cases c7 : (ji5) < (l0.length : Int)
     ·rw [if_pos c7] at H
      have c7b0 : decide ((ji5) < (l0.length : Int)) = true := decide_eq_true c7
      clear c7
      replace H := Option.bind_eq_some_iff.mp H
      obtain ⟨t123, A80, H⟩ := H
      replace H : (if t123 < 0 then (slices_BinarySearchFunc_api_Item_api_Item_string_fn53.l0 k1 l0 a1 (l0.length : Int) (wrap64 ((ji5) + 1)) x10_1) else (slices_BinarySearchFunc_api_Item_api_Item_string_fn53.l0 k1 l0 a1 (l0.length : Int) x9_1 ji5)) = some (r1, r2) := H
      have A8 := Aside0.mk A80
      clear A80
      by_cases c9 : t123 < 0
      ·rw [if_pos c9] at H
       have c9b0 : decide (t123 < 0) = true := decide_eq_true c9
       clear c9
       have H' := Aside0.mk H
       clear H
       have p122 : 0 ≤ ((ji5) : Int) := of_decide_eq_true (by first | (with_reducible assumption) | assumption)
       have q122 : (ji5) < (l0.length : Int) := of_decide_eq_true (by first | (with_reducible assumption) | assumption)
       obtain ⟨ad122, e122, hx122_0, hx122_1⟩ := at_T71 HR0.out (ji5) p122 q122
       cases e122
       replace hx122_0 := (HB.out.cell (World.block_lt_of_cell? w _ hx122_0)).trans hx122_0
       replace hx122_1 := (HB.out.cell (World.block_lt_of_cell? w _ hx122_1)).trans hx122_1
       replace p122 := eq_true p122
       replace q122 := eq_true q122
       go_wp2_with (first | ((with_reducible refine gate_dyn rfl ?_); refine goesD_ (some 30) rfl rfl Tryz.func53 (by kernel_rfl) rfl #[.agg #[.string ((rd_T71 l0 (ji5)).f0), .string ((rd_T71 l0 (ji5)).f1)], .string a1] rfl rfl (by (try simp only [List.map_toArray, List.map_cons, List.map_nil]); first | done | (simp only [hji5]; rfl) | rfl | (simp only [List.length_drop, List.length_take]; rfl)) ?_; (with_reducible refine (item_place_1.calls ((rd_T71 l0 (ji5)).f0) ((rd_T71 l0 (ji5)).f1) a1 t123 _ A8.out).mono ?_); rintro e w10 ⟨rfl, hb⟩; refine ⟨_, rfl, ?_⟩; replace HB := hb_ hb; (try clear hb); (try clear hb2); (try clear hk); (try clear hi)))
       go_roundg k1
       case measure => have := HK1.out; omega
       case rel => exact ⟨(wrap64 ((ji5) + 1)), (x10_1), (by first | rfl | (simp; done) | (simp only [← hji5] <;> (first | rfl | simp)) | (simp [*]; done)), (by first | rfl | (simp; done) | (simp [*]; done)), H', ⟨by have := HK1.out; omega⟩, ⟨bel_⟩⟩
      rw [if_neg c9] at H
      have c9b0 : decide (t123 < 0) = false := decide_eq_false c9
      clear c9
      have H' := Aside0.mk H
      clear H
      have p122 : 0 ≤ ((ji5) : Int) := of_decide_eq_true (by first | (with_reducible assumption) | assumption)
      have q122 : (ji5) < (l0.length : Int) := of_decide_eq_true (by first | (with_reducible assumption) | assumption)
      obtain ⟨ad122, e122, hx122_0, hx122_1⟩ := at_T71 HR0.out (ji5) p122 q122
      cases e122
      replace hx122_0 := (HB.out.cell (World.block_lt_of_cell? w _ hx122_0)).trans hx122_0
      replace hx122_1 := (HB.out.cell (World.block_lt_of_cell? w _ hx122_1)).trans hx122_1
      replace p122 := eq_true p122
      replace q122 := eq_true q122
      go_wp2_with (first | ((with_reducible refine gate_dyn rfl ?_); refine goesD_ (some 30) rfl rfl Tryz.func53 (by kernel_rfl) rfl #[.agg #[.string ((rd_T71 l0 (ji5)).f0), .string ((rd_T71 l0 (ji5)).f1)], .string a1] rfl rfl (by (try simp only [List.map_toArray, List.map_cons, List.map_nil]); first | done | (simp only [hji5]; rfl) | rfl | (simp only [List.length_drop, List.length_take]; rfl)) ?_; (with_reducible refine (item_place_1.calls ((rd_T71 l0 (ji5)).f0) ((rd_T71 l0 (ji5)).f1) a1 t123 _ A8.out).mono ?_); rintro e w11 ⟨rfl, hb⟩; refine ⟨_, rfl, ?_⟩; replace HB := hb_ hb; (try clear hb); (try clear hb2); (try clear hk); (try clear hi)))
      go_roundg k1
      case measure => have := HK1.out; omega
      case rel => exact ⟨(x9_1), (ji5), (by first | rfl | (simp; done) | (simp [*]; done)), (by first | rfl | (simp; done) | (simp only [← hji5] <;> (first | rfl | simp)) | (simp [*]; done)), H', ⟨by have := HK1.out; omega⟩, ⟨bel_⟩⟩
     rw [if_neg c7] at H
     exact absurd H (by simp)
    rw [if_neg c6] at H
    exact absurd H (by simp)
   rw [if_neg c4] at H
   have c4b0 : decide (x9_1 < x10_1) = false := decide_eq_false c4
   clear c4
   by_cases c12 : x9_1 < (l0.length : Int)
   ·rw [if_pos c12] at H
    have c12b0 : decide (x9_1 < (l0.length : Int)) = true := decide_eq_true c12
    clear c12
    by_cases c13 : 0 ≤ x9_1
    ·rw [if_pos c13] at H
     have c13b0 : decide (0 ≤ x9_1) = true := decide_eq_true c13
     clear c13
     by_cases c14 : x9_1 < (l0.length : Int)
     ·rw [if_pos c14] at H
      have c14b0 : decide (x9_1 < (l0.length : Int)) = true := decide_eq_true c14
      clear c14
      replace H := Option.bind_eq_some_iff.mp H
      obtain ⟨t125, A150, H⟩ := H
      replace H : (some (x9_1, (t125 == 0))) = some (r1, r2) := H
      have A15 := Aside0.mk A150
      clear A150
      simp only [Option.some.injEq, Prod.mk.injEq] at H
      obtain ⟨rfl, rfl⟩ := H
      have p124 : 0 ≤ (x9_1 : Int) := of_decide_eq_true (by first | (with_reducible assumption) | assumption)
      have q124 : x9_1 < (l0.length : Int) := of_decide_eq_true (by first | (with_reducible assumption) | assumption)
      obtain ⟨ad124, e124, hx124_0, hx124_1⟩ := at_T71 HR0.out x9_1 p124 q124
      cases e124
      replace hx124_0 := (HB.out.cell (World.block_lt_of_cell? w _ hx124_0)).trans hx124_0
      replace hx124_1 := (HB.out.cell (World.block_lt_of_cell? w _ hx124_1)).trans hx124_1
      replace p124 := eq_true p124
      replace q124 := eq_true q124
      go_wp2_with (first | (go_at_call 53; (with_reducible refine (item_place_1.calls ((rd_T71 l0 x9_1).f0) ((rd_T71 l0 x9_1).f1) a1 t125 _ A15.out).mono ?_); rintro e w16 ⟨rfl, hb⟩; replace HB := hb_ hb; (try clear hb); (try clear hb2); (try clear hk); (try clear hi)))
      go_ret2
      exact ⟨by first | rfl | (simp [errW_none, errW_some] <;> rfl) | (simp [*, errW_none, errW_some] <;> rfl), bel_⟩
     rw [if_neg c14] at H
     exact absurd H (by simp)
    rw [if_neg c13] at H
    exact absurd H (by simp)
   rw [if_neg c12] at H
   have c12b0 : decide (x9_1 < (l0.length : Int)) = false := decide_eq_false c12
   clear c12
   simp only [Option.some.injEq, Prod.mk.injEq] at H
   obtain ⟨rfl, rfl⟩ := H
   go_wp2
   go_ret2
   exact ⟨by first | rfl | (simp [errW_none, errW_some] <;> rfl) | (simp [*, errW_none, errW_some] <;> rfl), bel_⟩
def item_place.f (k : Nat) (l0 : List (S71)) (a1 : ByteArray) : Option (Int × Bool) := (slices_BinarySearchFunc_api_Item_api_Item_string_fn53.f k l0 a1).bind fun bt126 => (some (bt126.1, bt126.2))
theorem item_place.mono : ∀ a0 a1 k, LeO (item_place.f k a0 a1) (item_place.f (k + 1) a0 a1) := by
 intro a0 a1 k
 unfold item_place.f
 repeat' first
   | (with_reducible exact slices_BinarySearchFunc_api_Item_api_Item_string_fn53.mono _ _ _)
   | (with_reducible exact LeO.refl _)
   | (with_reducible exact LeO.none _)
   | (with_reducible refine LeO.ite ?_ ?_)
   | (with_reducible refine LeO.bind ?_ (fun _ => ?_))
   | exact slices_BinarySearchFunc_api_Item_api_Item_string_fn53.mono _ _ _
   | exact LeO.none _
   | refine LeO.ite ?_ ?_
   | refine LeO.bind ?_ (fun _ => ?_)
set_option maxHeartbeats 8000000 in
set_option maxRecDepth 100000 in
theorem item_place.calls (k : Nat) (A0 : Option Addr) (c0 : Nat) (l0 : List (S71)) (a1 : ByteArray) (r1 : Int) (r2 : Bool) (w : World) (hr0 : Kd.C k71 w A0 l0.length l0) (hc0 : l0.length ≤ c0) (h : item_place.f k l0 a1 = some (r1, r2)) :
  Calls Tryz.prog 29 #[.slice A0 l0.length c0, .string a1] w fun e w' => e = .returned (.tuple #[.int .i64 r1, .bool r2]) ∧ Below w.heap.size w w' := by
 have HR0 := Aside0.mk hr0
 have HC0 := Aside0.mk hc0
 clear hr0 hc0
 have HB := Aside0.mk (Below.refl w.heap.size w)
 have H : ((slices_BinarySearchFunc_api_Item_api_Item_string_fn53.f k l0 a1).bind fun bt126 => (some (bt126.1, bt126.2))) = some (r1, r2) := h
 clear h
 replace H := Option.bind_eq_some_iff.mp H
 obtain ⟨⟨t126, t127⟩, A30, H⟩ := H
 replace H : (some (t126, t127)) = some (r1, r2) := H
 have A3 := Aside0.mk A30
 clear A30
 simp only [Option.some.injEq, Prod.mk.injEq] at H
 obtain ⟨rfl, rfl⟩ := H
 go_enter Tryz.func29, Tryz.ntmps29
 go_wp2_with (first | ((with_reducible refine gate_callee (f := 52) rfl ?_); refine gl_ (some 8) Tryz.func52 #[.slice A0 l0.length c0, .string a1, .func (.func 53) #[] #[]] ?_; (with_reducible refine (slices_BinarySearchFunc_api_Item_api_Item_string_fn53.calls k _ _ l0 a1 t126 t127 _ ?side1 ?side2 A3.out).mono ?_); (case side1 => repeat (first | exact HR0.out | (with_reducible refine Kd.C_alloc ?_ _) | (with_reducible refine Kd.C_drewN ?_ _) | (with_reducible refine Kd.C_drew ?_))); (case side2 => exact HC0.out); rintro e w4 ⟨rfl, hb⟩; refine ⟨_, rfl, ?_⟩; replace HB := hb_ hb; (try clear hb); (try clear hb2); (try clear hk); (try clear hi)))
 go_ret2
 exact ⟨by first | rfl | (simp [errW_none, errW_some] <;> rfl) | (simp [*, errW_none, errW_some] <;> rfl), bel_⟩
def item_Get.f (k : Nat) (l0 : List (S71)) (a1 : ByteArray) : Option (ByteArray × Int) := (item_Check.f k l0).bind fun t275 => (if t275 = 0 then ((item_place.f k l0 a1).bind fun bt276 => (if bt276.2 = true then (if 0 ≤ bt276.1 then (if bt276.1 < (l0.length : Int) then (some ((rd_T71 l0 bt276.1).f1, 0)) else (none)) else (none)) else (some ((⟨#[]⟩ : ByteArray), 5)))) else (some ((⟨#[]⟩ : ByteArray), t275)))
theorem item_Get.mono : ∀ a0 a1 k, LeO (item_Get.f k a0 a1) (item_Get.f (k + 1) a0 a1) := by
 intro a0 a1 k
 unfold item_Get.f
 repeat' first
   | (with_reducible exact item_Check.mono _ _)
   | (with_reducible exact item_place.mono _ _ _)
   | (with_reducible exact LeO.refl _)
   | (with_reducible exact LeO.none _)
   | (with_reducible refine LeO.ite ?_ ?_)
   | (with_reducible refine LeO.bind ?_ (fun _ => ?_))
   | exact item_Check.mono _ _
   | exact item_place.mono _ _ _
   | exact LeO.none _
   | refine LeO.ite ?_ ?_
   | refine LeO.bind ?_ (fun _ => ?_)
set_option maxHeartbeats 8000000 in
set_option maxRecDepth 100000 in
theorem item_Get.calls (k : Nat) (A0 : Option Addr) (c0 : Nat) (l0 : List (S71)) (a1 : ByteArray) (r1 : ByteArray) (r2 : Int) (w : World) (hr0 : Kd.C k71 w A0 l0.length l0) (hc0 : l0.length ≤ c0) (h : item_Get.f k l0 a1 = some (r1, r2)) :
  Calls Tryz.prog 84 #[.slice A0 l0.length c0, .string a1] w fun e w' => e = .returned (.tuple #[.string r1, .int .i64 r2]) ∧ Below w.heap.size w w' := by
 have HR0 := Aside0.mk hr0
 have HC0 := Aside0.mk hc0
 clear hr0 hc0
 have HB := Aside0.mk (Below.refl w.heap.size w)
 have H : ((item_Check.f k l0).bind fun t275 => (if t275 = 0 then ((item_place.f k l0 a1).bind fun bt276 => (if bt276.2 = true then (if 0 ≤ bt276.1 then (if bt276.1 < (l0.length : Int) then (some ((rd_T71 l0 bt276.1).f1, 0)) else (none)) else (none)) else (some ((⟨#[]⟩ : ByteArray), 5)))) else (some ((⟨#[]⟩ : ByteArray), t275)))) = some (r1, r2) := h
 clear h
 replace H := Option.bind_eq_some_iff.mp H
 obtain ⟨t275, A30, H⟩ := H
 replace H : (if t275 = 0 then ((item_place.f k l0 a1).bind fun bt276 => (if bt276.2 = true then (if 0 ≤ bt276.1 then (if bt276.1 < (l0.length : Int) then (some ((rd_T71 l0 bt276.1).f1, 0)) else (none)) else (none)) else (some ((⟨#[]⟩ : ByteArray), 5)))) else (some ((⟨#[]⟩ : ByteArray), t275))) = some (r1, r2) := H
 have A3 := Aside0.mk A30
 clear A30
 by_cases c4 : t275 = 0
 ·rw [if_pos c4] at H
  have c4b0 : (t275 == 0) = true := beq_iff_eq.mpr c4
  have c4b1 : (t275 != 0) = false := bne_eq_false_iff_eq.mpr c4
  clear c4
  replace H := Option.bind_eq_some_iff.mp H
  obtain ⟨⟨t276, t277⟩, A50, H⟩ := H
  replace H : (if t277 = true then (if 0 ≤ t276 then (if t276 < (l0.length : Int) then (some ((rd_T71 l0 t276).f1, 0)) else (none)) else (none)) else (some ((⟨#[]⟩ : ByteArray), 5))) = some (r1, r2) := H
  have A5 := Aside0.mk A50
  clear A50
  by_cases c6 : t277 = true
  ·subst c6
   have H1 : (if 0 ≤ t276 then (if t276 < (l0.length : Int) then (some ((rd_T71 l0 t276).f1, 0)) else (none)) else (none)) = some (r1, r2) := by rw [if_pos rfl] at H; exact H
   clear H
   have H := H1
   clear H1
   by_cases c7 : 0 ≤ t276
   ·rw [if_pos c7] at H
    have c7b0 : decide (0 ≤ t276) = true := decide_eq_true c7
    clear c7
    by_cases c8 : t276 < (l0.length : Int)
    ·rw [if_pos c8] at H
     have c8b0 : decide (t276 < (l0.length : Int)) = true := decide_eq_true c8
     clear c8
     simp only [Option.some.injEq, Prod.mk.injEq] at H
     obtain ⟨rfl, rfl⟩ := H
     go_enter Tryz.func84, Tryz.ntmps84
     go_wp2_with (first | ((with_reducible refine gate_callee (f := 26) rfl ?_); refine gl_ (some 10) Tryz.func26 #[.slice A0 l0.length c0] ?_; (with_reducible refine (item_Check.calls k _ _ l0 t275 _ ?side1 ?side2 A3.out).mono ?_); (case side1 => repeat (first | exact HR0.out | (with_reducible refine Kd.C_alloc ?_ _) | (with_reducible refine Kd.C_drewN ?_ _) | (with_reducible refine Kd.C_drew ?_))); (case side2 => exact HC0.out); rintro e w9 ⟨rfl, hb⟩; refine ⟨_, rfl, ?_⟩; replace HB := hb_ hb; (try clear hb); (try clear hb2); (try clear hk); (try clear hi)) | ((with_reducible refine gate_callee (f := 29) rfl ?_); refine gl_ (some 17) Tryz.func29 #[.slice A0 l0.length c0, .string a1] ?_; (with_reducible refine (item_place.calls k _ _ l0 a1 t276 true _ ?side1 ?side2 A5.out).mono ?_); (case side1 => exact cb_ HR0); (case side2 => exact HC0.out); rintro e w10 ⟨rfl, hb⟩; refine ⟨_, rfl, ?_⟩; replace HB := hb_ hb; (try clear hb); (try clear hb2); (try clear hk); (try clear hi); have p278 : 0 ≤ (t276 : Int) := of_decide_eq_true (by first | (with_reducible assumption) | assumption); have q278 : t276 < (l0.length : Int) := of_decide_eq_true (by first | (with_reducible assumption) | assumption); obtain ⟨ad278, e278, hx278_0, hx278_1⟩ := at_T71 HR0.out t276 p278 q278; cases e278; replace hx278_0 := (HB.out.cell (World.block_lt_of_cell? w _ hx278_0)).trans hx278_0; replace hx278_1 := (HB.out.cell (World.block_lt_of_cell? w _ hx278_1)).trans hx278_1; replace p278 := eq_true p278; replace q278 := eq_true q278))
     go_ret2
     exact ⟨by first | rfl | (simp [errW_none, errW_some] <;> rfl) | (simp [*, errW_none, errW_some] <;> rfl), bel_⟩
    rw [if_neg c8] at H
    exact absurd H (by simp)
   rw [if_neg c7] at H
   exact absurd H (by simp)
  replace c6 := Bool.eq_false_iff.mpr c6
  subst c6
  have H1 : (some ((⟨#[]⟩ : ByteArray), 5)) = some (r1, r2) := by rw [if_neg (show ¬ (false = true) by decide)] at H; exact H
  clear H
  have H := H1
  clear H1
  simp only [Option.some.injEq, Prod.mk.injEq] at H
  obtain ⟨rfl, rfl⟩ := H
  go_enter Tryz.func84, Tryz.ntmps84
  go_wp2_with (first | ((with_reducible refine gate_callee (f := 26) rfl ?_); refine gl_ (some 10) Tryz.func26 #[.slice A0 l0.length c0] ?_; (with_reducible refine (item_Check.calls k _ _ l0 t275 _ ?side1 ?side2 A3.out).mono ?_); (case side1 => repeat (first | exact HR0.out | (with_reducible refine Kd.C_alloc ?_ _) | (with_reducible refine Kd.C_drewN ?_ _) | (with_reducible refine Kd.C_drew ?_))); (case side2 => exact HC0.out); rintro e w11 ⟨rfl, hb⟩; refine ⟨_, rfl, ?_⟩; replace HB := hb_ hb; (try clear hb); (try clear hb2); (try clear hk); (try clear hi)) | ((with_reducible refine gate_callee (f := 29) rfl ?_); refine gl_ (some 17) Tryz.func29 #[.slice A0 l0.length c0, .string a1] ?_; (with_reducible refine (item_place.calls k _ _ l0 a1 t276 false _ ?side1 ?side2 A5.out).mono ?_); (case side1 => exact cb_ HR0); (case side2 => exact HC0.out); rintro e w12 ⟨rfl, hb⟩; refine ⟨_, rfl, ?_⟩; replace HB := hb_ hb; (try clear hb); (try clear hb2); (try clear hk); (try clear hi)))
  go_ret2
  exact ⟨by first | rfl | (simp [errW_none, errW_some] <;> rfl) | (simp [*, errW_none, errW_some] <;> rfl), bel_⟩
 rw [if_neg c4] at H
 have c4b0 : (t275 == 0) = false := beq_eq_false_iff_ne.mpr c4
 have c4b1 : (t275 != 0) = true := bne_iff_ne.mpr c4
 simp only [Option.some.injEq, Prod.mk.injEq] at H
 obtain ⟨rfl, rfl⟩ := H
 go_enter Tryz.func84, Tryz.ntmps84
 go_wp2_with (first | ((with_reducible refine gate_callee (f := 26) rfl ?_); refine gl_ (some 10) Tryz.func26 #[.slice A0 l0.length c0] ?_; (with_reducible refine (item_Check.calls k _ _ l0 t275 _ ?side1 ?side2 A3.out).mono ?_); (case side1 => repeat (first | exact HR0.out | (with_reducible refine Kd.C_alloc ?_ _) | (with_reducible refine Kd.C_drewN ?_ _) | (with_reducible refine Kd.C_drew ?_))); (case side2 => exact HC0.out); rintro e w13 ⟨rfl, hb⟩; refine ⟨_, rfl, ?_⟩; replace HB := hb_ hb; (try clear hb); (try clear hb2); (try clear hk); (try clear hi)))
 go_ret2
 exact ⟨by first | rfl | (simp [errW_none, errW_some] <;> rfl) | (simp [*, errW_none, errW_some] <;> rfl), bel_⟩
end Go.Proofs.YthbljhmjppjcjaaGreatDoor.Z
end

section
/- dirs: Inode, Entry, Next (printed by genask.py). -/
namespace Go.Proofs.YthbljhmjppjcjaaGreatDoor.Z
open Go.RowKit Go.Proofs.YthbljhmjppjcjaaGreatDoorW.PrintWords Go.Proofs.YthbljhmjppjcjaaGreatDoorW.PrintLast Go.Proofs.YthbljhmjppjcjaaGreatDoorW.PrintMore
set_option linter.unusedVariables false
set_option linter.unusedSimpArgs false
attribute [local go_sem ↓] Go.wp_at_zero Go.wp_at_succ
abbrev VolOf (w : World) (g base : Nat) (A : Option Addr) (c : Nat) (l : List VIT) (sm : Int) (s : VS) : Prop := VolR w g base (.slice A l.length c) 1 0 sm true s
def entryF (k : Nat) (l : List VIT) (i : Int) (nm : ByteArray) : Option Int := (inode_Key.f k 2 i nm 0).bind fun q => if q.2 = 0 then (item_Get.f k l q.1).bind fun r => dirs_number.f k r.1 else some 0
theorem entryF.mono (l : List VIT) (i : Int) (nm : ByteArray) : ∀ k, LeO (entryF k l i nm) (entryF (k + 1) l i nm) := fun k => by
  unfold entryF
  exact LeO.bind (inode_Key.mono _ _ _ _ _) (fun _ => LeO.ite (LeO.bind (item_Get.mono _ _ _) (fun _ => dirs_number.mono _ _)) (LeO.refl _))
theorem entry_wf {k : Nat} {l : List VIT} {i : Int} {nm : ByteArray} {r : Int} (h : entryF k l i nm = some r) : 0 ≤ r ∧ r < 4294967296 := by
  unfold entryF at h
  obtain ⟨q, _, h⟩ := Option.bind_eq_some_iff.mp h
  split at h
  · obtain ⟨x, _, h⟩ := Option.bind_eq_some_iff.mp h
    exact number_wf h
  · have := Option.some.inj h
    omega
set_option maxRecDepth 100000 in
set_option maxHeartbeats 3200000 in
theorem entry_calls (k : Nat) (g base : Nat) (A : Option Addr) (c : Nat) (l : List VIT) (sm : Int) (s : VS) (i : Int) (nm : ByteArray) (r : Int) (w : World) (hV : VolOf w g base A c l sm s) (hC : Kd.C k71 w A l.length l) (hc : l.length ≤ c) (h : entryF k l i nm = some r) :
    Calls Tryz.prog 59 #[.pointer (some ⟨g, 0, none⟩), .int .u32 i, .string nm] w fun e w' => e = .returned (.int .u32 r) ∧ Below w.heap.size w w' := by
  obtain ⟨va, bi, bu, hG, _⟩ := hV
  have GB := Aside0.mk hG
  have HC := Aside0.mk hC
  have HP := Aside0.mk hc
  unfold entryF at h
  obtain ⟨⟨ky, wy⟩, hk, h⟩ := Option.bind_eq_some_iff.mp h
  have HK := Aside0.mk hk
  clear hG hC hc hk
  by_cases h0 : wy = 0
  · rw [if_pos h0] at h
    subst h0
    obtain ⟨⟨vl, wv⟩, hg, h⟩ := Option.bind_eq_some_iff.mp h
    have HG := Aside0.mk hg
    have HN := Aside0.mk h
    clear hg h
    go_enter Tryz.func59, Tryz.ntmps59
    go_wp2_with (first
      | (go_at_call 7; refine (inode_Key.calls k 2 i nm 0 ky 0 _ HK.out).mono ?_; rintro e w1 ⟨rfl, hb⟩; have B1 := Aside0.mk hb; have q0 : w1.cell? ⟨g, 0, none⟩ = some (.slice A l.length c) := (blk_cell (blk_below GB.out hb) 0).trans rfl; clear hb)
      | (go_at_call 84; refine (item_Get.calls k A c l ky vl wv _ (Kd.C_below HC.out B1.out) HP.out HG.out).mono ?_; rintro e w2 ⟨rfl, hb⟩; have B2 := Aside0.mk (below_step B1.out hb); clear hb)
      | (go_at_call 85; refine (dirs_number.calls k vl r _ HN.out).mono ?_; rintro e w3 ⟨rfl, hd⟩; have B3 := Aside0.mk (below_step B2.out hd.below); clear hd))
    go_ret
    exact ⟨rfl, B3.out⟩
  · rw [if_neg h0] at h
    have e0 : (wy != 0) = true := bne_iff_ne.2 h0
    obtain rfl := Option.some.inj h
    clear h h0
    go_enter Tryz.func59, Tryz.ntmps59
    go_wp2_with (first
      | (go_at_call 7; refine (inode_Key.calls k 2 i nm 0 ky wy _ HK.out).mono ?_; rintro e w1 ⟨rfl, hb⟩; have B1 := Aside0.mk hb; clear hb))
    go_ret
    exact ⟨rfl, B1.out⟩
end Go.Proofs.YthbljhmjppjcjaaGreatDoor.Z
end

section
/- slices.Grow, slices.Concat, of texts. -/
namespace Go.Proofs.YthbljhmjppjcjaaGreatDoor.Z
open Go.RowKit Go.Proofs.YthbljhmjppjcjaaGreatDoorW.PrintWords Go.Proofs.YthbljhmjppjcjaaGreatDoorW.PrintLast Go.Proofs.YthbljhmjppjcjaaGreatDoorW.PrintMore
set_option linter.unusedVariables false
set_option linter.unusedSimpArgs false
theorem info_str : (Tryz.prog.info? 9).map (fun i => (i.zero, i.size, i.bytes)) = some (some (.string ⟨#[]⟩), 1, 16) := by kernel_rfl
set_option maxRecDepth 100000 in
set_option maxHeartbeats 1600000 in
theorem grow_calls (n : Nat) (hn : n ≤ 10995116277760) (w : World) :
    Calls Tryz.prog 88 #[.slice none 0 0, .int .i64 n] w fun e w' => ∃ v, e = .returned v ∧ Kd.R Kd.string 9 w' w.heap.size (fun _ => True) v [] ∧ Below w.heap.size w w' := by
  by_cases h0 : 0 < n
  · obtain ⟨i, hi, hz, hs, hb⟩ := info_parts info_str
    have hrun := fun ty => Lib.run_append_nil_zeros (P := Tryz.prog) w 49 3 ty 9 i (.string ⟨#[]⟩) .i64 .i64 Tryz.underlying49 Tryz.underlying3 hi hz n h0 (by rw [hs]; decide) (by omega) (by rw [hb]; omega)
    obtain ⟨cp, hcp⟩ : ∃ cp, cp = grownCap w n 0 9 := ⟨_, rfl⟩
    have hge : n ≤ cp := by rw [hcp]; exact grownCap_ge _ _ _ _
    have hmx : cp ≤ maxLen := by rw [hcp]; exact grownCap_le_maxLen _ _ _ _ (by unfold maxLen; omega)
    have hsz : (Builtin.zeroCells (Value.string ⟨#[]⟩).cells n ++ Builtin.zeroCells (Value.string ⟨#[]⟩).cells (cp - n)).size = cp * 1 := by
      rw [Array.size_append, size_zeroCells, size_zeroCells]
      simp [Value.cells]
      omega
    have hpos : decide ((0 : Int) < n) = true := decide_eq_true (by omega)
    have hpos2 : decide (0 < n) = true := decide_eq_true h0
    have hneg : decide ((n : Int) < 0) = false := decide_eq_false (by omega)
    have hw1 : IntKind.i64.wrap (n : Int) = n := by rw [IntKind.wrap_i64]; omega
    have HG := Aside0.mk hge
    have HM := Aside0.mk hmx
    have HS := Aside0.mk hsz
    have HR := Aside0.mk hrun
    have HCP := Aside0.mk hcp
    have pc := eq_true (show (0 : Int) ≤ cp by omega)
    clear hrun hsz hge hmx hi hz hs hb h0 hcp
    go_enter Tryz.func88, Tryz.ntmps88
    go_wp2_with (at_builtin; refine Lib.wpList_append_run _ rfl (.tmp 20) (.tmp 21) 49 3 rfl (.slice none 0 0) (.int .i64 n) rfl rfl (.slice (some ⟨w.heap.size, 0, none⟩) n cp) (w.drew.alloc (.cells (Builtin.zeroCells (Value.string ⟨#[]⟩).cells n ++ Builtin.zeroCells (Value.string ⟨#[]⟩).cells (cp - n)) 9)) (by rw [HCP.out]; exact HR.out _) ?_; have B1 := Aside0.mk (blk_new w.drew (.cells (Builtin.zeroCells (Value.string ⟨#[]⟩).cells n ++ Builtin.zeroCells (Value.string ⟨#[]⟩).cells (cp - n)) 9)); have D1 := Aside0.mk (below_alloc (below_drew1 (Below.refl w.heap.size w)) (.cells (Builtin.zeroCells (Value.string ⟨#[]⟩).cells n ++ Builtin.zeroCells (Value.string ⟨#[]⟩).cells (cp - n)) 9)); generalize (w.drew.alloc (.cells (Builtin.zeroCells (Value.string ⟨#[]⟩).cells n ++ Builtin.zeroCells (Value.string ⟨#[]⟩).cells (cp - n)) 9)) = w1 at B1 D1 ⊢)
    go_ret
    exact ⟨_, rfl, R_of_row (d := Kd.string) (xs := []) (inner := []) (Nat.le_refl _) trivial B1.out (Nat.zero_le _) HM.out HS.out rfl rfl (fun ok' => Reps.none _ _), D1.out⟩
  · obtain rfl : n = 0 := by omega
    go_enter Tryz.func88, Tryz.ntmps88
    go_wp2
    go_ret
    exact ⟨_, rfl, Kd.R_nil _ _ _ _ _, Below.refl _ _⟩
theorem str_base {w : World} {base : Nat} {v : Value} {l : List ByteArray} (h : Kd.R Kd.string 9 w base (fun _ => True) v l) (b : Nat) (e : v.ownBlock = some b) : base ≤ b := by
  obtain ⟨inner, ho⟩ := Kd.R_own h
  exact own_base ho b e
set_option maxRecDepth 100000 in
set_option maxHeartbeats 3200000 in
theorem concat_calls (gq : Nat) (t : TypeId) (A1 A2 : Option Addr) (c1 c2 : Nat) (l1 l2 : List ByteArray) (w : World) (hq : w.heap[gq]? = some (.cells #[.slice A1 l1.length c1, .slice A2 l2.length c2] t (0, 0))) (h1 : Kd.C Kd.string w A1 l1.length l1) (h2 : Kd.C Kd.string w A2 l2.length l2) (hl : l1.length + l2.length ≤ 10995116277760) :
    Calls Tryz.prog 61 #[.slice (some ⟨gq, 0, none⟩) 2 2] w fun e w' => ∃ v, e = .returned v ∧ Kd.R Kd.string 9 w' w.heap.size (fun _ => True) v (l1 ++ l2) ∧ Below w.heap.size w w' := by
  have HQ := Aside0.mk hq
  have H1 := Aside0.mk h1
  have H2 := Aside0.mk h2
  have HL := Aside0.mk hl
  clear hq h1 h2 hl
  go_enter Tryz.func61, Tryz.ntmps61
  go_wp2
  go_loopw [3, 11] (fun vs vi wr => ∃ i : Nat, vi = .int .i64 i ∧ vs = .int .i64 (if i = 0 then 0 else if i = 1 then l1.length else l1.length + l2.length : Nat) ∧ i ≤ 2 ∧ Aside0 (Below w.heap.size w wr)) (fun _ vi _ => 2 - (intOf vi).toNat)
  case atStart => exact ⟨0, rfl, rfl, by omega, ⟨Below.refl _ _⟩⟩
  case round =>
    obtain ⟨i, rfl, rfl, hi, HB⟩ := hrel
    have G1 := Aside0.mk (blk_below HQ.out HB.out)
    have hll := HL.out
    have hi3 : i = 0 ∨ i = 1 ∨ i = 2 := by omega
    rcases hi3 with rfl | rfl | rfl
    · have c0 : wr.cell? ⟨gq, 0, none⟩ = some (.slice A1 l1.length c1) := (blk_cell G1.out 0).trans rfl
      have e1 : IntKind.i64.wrap (l1.length : Int) = l1.length := by rw [IntKind.wrap_i64]; omega
      have e2 : decide ((l1.length : Int) < 0) = false := decide_eq_false (by omega)
      clear hll hi
      go_wp2
      exact ⟨⟨1, rfl, rfl, by omega, HB⟩, by decide⟩
    · have c0 : wr.cell? ⟨gq, 1, none⟩ = some (.slice A2 l2.length c2) := (blk_cell G1.out 1).trans rfl
      have e1 : IntKind.i64.wrap ((l1.length : Int) + (l2.length : Int)) = (l1.length : Int) + (l2.length : Int) := by rw [IntKind.wrap_i64]; omega
      have e2 : decide ((l1.length : Int) + (l2.length : Int) < 0) = false := decide_eq_false (by omega)
      clear hll hi
      go_wp2
      exact ⟨⟨2, rfl, by first | rfl | simp, by omega, HB⟩, by decide⟩
    · clear hll hi
      go_wp2_with (go_at_call 88; refine (grow_calls (l1.length + l2.length) HL.out _).mono ?_; rintro e w1 ⟨v1, rfl, hr, hb⟩; have R1 := Aside0.mk (Kd.R_lower hr HB.out.size); have B1 := Aside0.mk (below_step HB.out hb); clear hr hb)
      go_loopw [6, 27] (fun vn vi wr => ∃ i : Nat, vi = .int .i64 i ∧ i ≤ 2 ∧ Aside0 (Kd.R Kd.string 9 wr w.heap.size (fun _ => True) vn (if i = 0 then [] else if i = 1 then l1 else l1 ++ l2)) ∧ Aside0 (Below w.heap.size w wr)) (fun _ vi _ => 2 - (intOf vi).toNat)
      case atStart => exact ⟨0, rfl, by omega, R1, B1⟩
      case round =>
        obtain ⟨i, rfl, hi, HR, HB2⟩ := hrel
        obtain ⟨A0, c0_, hv⟩ := Kd.R_slice HR.out
        obtain ⟨n0, hn0⟩ : ∃ n0, n0 = (if i = 0 then [] else if i = 1 then l1 else l1 ++ l2 : List ByteArray).length := ⟨_, rfl⟩
        rw [← hn0] at hv
        subst hv
        have G2 := Aside0.mk (blk_below HQ.out HB2.out)
        have hi3 : i = 0 ∨ i = 1 ∨ i = 2 := by omega
        clear G1
        rcases hi3 with rfl | rfl | rfl
        · have c0 : wr.cell? ⟨gq, 0, none⟩ = some (.slice A1 l1.length c1) := (blk_cell G2.out 0).trans rfl
          clear hi hn0
          go_wp2_with ((at_builtin; refine append_wide_event (d := Kd.string) flat_string w.heap.size rfl (.tmp 31) (.tmp 32) 49 9 (.string ⟨#[]⟩) 16 rfl Tryz.underlying49 info_str rfl (by decide) (.slice A0 n0 c0_) [] l1 A1 l1.length c1 rfl rfl HR.out (Kd.C_below H1.out HB2.out) HB2.out.size (by have := HL.out; simp; omega) (by have := HL.out; unfold maxLen; simp; omega) ?_; intro v3 w3 ho hg; have R3 := Aside0.mk ho; have B3 := Aside0.mk (HB2.out.grown hg HB2.out.size (fun j hj => str_base HR.out j hj)); clear ho hg))
          exact ⟨⟨1, rfl, by omega, R3, B3⟩, by decide⟩
        · have c0 : wr.cell? ⟨gq, 1, none⟩ = some (.slice A2 l2.length c2) := (blk_cell G2.out 1).trans rfl
          clear hi hn0
          go_wp2_with ((at_builtin; refine append_wide_event (d := Kd.string) flat_string w.heap.size rfl (.tmp 31) (.tmp 32) 49 9 (.string ⟨#[]⟩) 16 rfl Tryz.underlying49 info_str rfl (by decide) (.slice A0 n0 c0_) l1 l2 A2 l2.length c2 rfl rfl HR.out (Kd.C_below H2.out HB2.out) HB2.out.size (by have := HL.out; simp; omega) (by have := HL.out; unfold maxLen; simp; omega) ?_; intro v3 w3 ho hg; have R3 := Aside0.mk ho; have B3 := Aside0.mk (HB2.out.grown hg HB2.out.size (fun j hj => str_base HR.out j hj)); clear ho hg))
          exact ⟨⟨2, rfl, by omega, R3, B3⟩, by decide⟩
        · clear hi hn0
          go_wp2
          go_ret
          exact ⟨_, rfl, HR.out, HB2.out⟩
end Go.Proofs.YthbljhmjppjcjaaGreatDoor.Z
end

section
namespace Go.Proofs.YthbljhmjppjcjaaGreatDoor.Z
open Go.RowKit Go.Proofs.YthbljhmjppjcjaaGreatDoorW.PrintWords Go.Proofs.YthbljhmjppjcjaaGreatDoorW.PrintLast Go.Proofs.YthbljhmjppjcjaaGreatDoorW.PrintMore
attribute [local go_sem] max2_int min2_int max_two min_two max_three min_three max_four min_four   -- for this text's walks alone
set_option linter.unusedVariables false
set_option linter.unusedSimpArgs false
def stringslite_HasPrefix.f (a0 : ByteArray) (a1 : ByteArray) : Option (Bool) := if (a0.size : Int) ≥ (a1.size : Int) then (if 0 ≤ (a1.size : Int) then (if (a1.size : Int) ≤ (a0.size : Int) then (some ((a0.extract 0 ((a1.size : Int) : Int).toNat).toList == a1.toList)) else (none)) else (none)) else (some false)
set_option maxHeartbeats 8000000 in
set_option maxRecDepth 100000 in
theorem stringslite_HasPrefix.calls (a0 : ByteArray) (a1 : ByteArray) (r : Bool) (w : World) (h : stringslite_HasPrefix.f a0 a1 = some r) :
  Calls Tryz.prog 92 #[.string a0, .string a1] w fun e w' => e = .returned (.bool r) ∧ Drawn0 w w' := by
 have H : (if (a0.size : Int) ≥ (a1.size : Int) then (if 0 ≤ (a1.size : Int) then (if (a1.size : Int) ≤ (a0.size : Int) then (some ((a0.extract 0 ((a1.size : Int) : Int).toNat).toList == a1.toList)) else (none)) else (none)) else (some false)) = some r := h
 clear h
 by_cases c3 : (a0.size : Int) ≥ (a1.size : Int)
 ·rw [if_pos c3] at H
  have c3b0 : decide ((a1.size : Int) ≤ (a0.size : Int)) = true := decide_eq_true c3
  have c3b1 : decide (a1.size ≤ a0.size) = true := decide_eq_true (Int.ofNat_le.mp c3)
  clear c3
  by_cases c4 : 0 ≤ (a1.size : Int)
  ·rw [if_pos c4] at H
   have c4b0 := eq_true c4
   have c4b1 : decide (0 ≤ (a1.size : Int)) = true := decide_eq_true c4
   clear c4
   by_cases c5 : (a1.size : Int) ≤ (a0.size : Int)
   ·rw [if_pos c5] at H
    have c5b0 := eq_true c5
    have c5b1 : decide ((a1.size : Int) ≤ (a0.size : Int)) = true := decide_eq_true c5
    clear c5
    obtain rfl := Option.some.inj H
    go_enter Tryz.func92, Tryz.ntmps92
    go_wp2
    go_ret
    exact ⟨by first | rfl | (simp; done) | (simp [*]; done), by repeat (first | exact Drawn0.refl _ | apply Drawn0.step)⟩
   rw [if_neg c5] at H
   exact absurd H (by simp)
  rw [if_neg c4] at H
  exact absurd H (by simp)
 rw [if_neg c3] at H
 have c3b0 : decide ((a1.size : Int) ≤ (a0.size : Int)) = false := decide_eq_false c3
 have c3b1 : decide (a1.size ≤ a0.size) = false := decide_eq_false (fun h => c3 (Int.ofNat_le.mpr h))
 clear c3
 obtain rfl := Option.some.inj H
 go_enter Tryz.func92, Tryz.ntmps92
 go_wp2
 go_ret
 exact ⟨by first | rfl | (simp; done) | (simp [*]; done), by repeat (first | exact Drawn0.refl _ | apply Drawn0.step)⟩
def stringslite_CutPrefix.f (a0 : ByteArray) (a1 : ByteArray) : Option (ByteArray × Bool) := (stringslite_HasPrefix.f a0 a1).bind fun t259 => (if t259 = true then (if 0 ≤ (a1.size : Int) then (if (a1.size : Int) ≤ (a0.size : Int) then (some (a0.extract ((a1.size : Int) : Int).toNat a0.size, true)) else (none)) else (none)) else (some (a0, false)))
set_option maxHeartbeats 8000000 in
set_option maxRecDepth 100000 in
theorem stringslite_CutPrefix.calls (a0 : ByteArray) (a1 : ByteArray) (r1 : ByteArray) (r2 : Bool) (w : World) (h : stringslite_CutPrefix.f a0 a1 = some (r1, r2)) :
  Calls Tryz.prog 106 #[.string a0, .string a1] w fun e w' => e = .returned (.tuple #[.string r1, .bool r2]) ∧ Drawn0 w w' := by
 have H : ((stringslite_HasPrefix.f a0 a1).bind fun t259 => (if t259 = true then (if 0 ≤ (a1.size : Int) then (if (a1.size : Int) ≤ (a0.size : Int) then (some (a0.extract ((a1.size : Int) : Int).toNat a0.size, true)) else (none)) else (none)) else (some (a0, false)))) = some (r1, r2) := h
 clear h
 replace H := Option.bind_eq_some_iff.mp H
 obtain ⟨t259, A30, H⟩ := H
 replace H : (if t259 = true then (if 0 ≤ (a1.size : Int) then (if (a1.size : Int) ≤ (a0.size : Int) then (some (a0.extract ((a1.size : Int) : Int).toNat a0.size, true)) else (none)) else (none)) else (some (a0, false))) = some (r1, r2) := H
 have A3 := Aside0.mk A30
 clear A30
 by_cases c4 : t259 = true
 ·subst c4
  have H1 : (if 0 ≤ (a1.size : Int) then (if (a1.size : Int) ≤ (a0.size : Int) then (some (a0.extract ((a1.size : Int) : Int).toNat a0.size, true)) else (none)) else (none)) = some (r1, r2) := by rw [if_pos rfl] at H; exact H
  clear H
  have H := H1
  clear H1
  by_cases c5 : 0 ≤ (a1.size : Int)
  ·rw [if_pos c5] at H
   have c5b0 := eq_true c5
   have c5b1 : decide (0 ≤ (a1.size : Int)) = true := decide_eq_true c5
   clear c5
   by_cases c6 : (a1.size : Int) ≤ (a0.size : Int)
   ·rw [if_pos c6] at H
    have c6b0 := eq_true c6
    have c6b1 : decide ((a1.size : Int) ≤ (a0.size : Int)) = true := decide_eq_true c6
    clear c6
    simp only [Option.some.injEq, Prod.mk.injEq] at H
    obtain ⟨rfl, rfl⟩ := H
    go_enter Tryz.func106, Tryz.ntmps106
    go_wp2_with (first | ((with_reducible refine gate_callee (f := 92) rfl ?_); refine gl_ (some 8) Tryz.func92 #[.string a0, .string a1] ?_; (with_reducible refine (stringslite_HasPrefix.calls a0 a1 true _ A3.out).mono ?_); rintro e w' ⟨rfl, ⟨nd, rfl⟩⟩; refine ⟨_, rfl, ?_⟩))
    go_ret2
    exact ⟨by first | rfl | (simp; done) | (simp [*]; done), by repeat (first | exact Drawn0.refl _ | apply Drawn0.step)⟩
   rw [if_neg c6] at H
   exact absurd H (by simp)
  rw [if_neg c5] at H
  exact absurd H (by simp)
 replace c4 := Bool.eq_false_iff.mpr c4
 subst c4
 have H1 : (some (a0, false)) = some (r1, r2) := by rw [if_neg (show ¬ (false = true) by decide)] at H; exact H
 clear H
 have H := H1
 clear H1
 simp only [Option.some.injEq, Prod.mk.injEq] at H
 obtain ⟨rfl, rfl⟩ := H
 go_enter Tryz.func106, Tryz.ntmps106
 go_wp2_with (first | ((with_reducible refine gate_callee (f := 92) rfl ?_); refine gl_ (some 8) Tryz.func92 #[.string a0, .string a1] ?_; (with_reducible refine (stringslite_HasPrefix.calls a0 a1 false _ A3.out).mono ?_); rintro e w' ⟨rfl, ⟨nd, rfl⟩⟩; refine ⟨_, rfl, ?_⟩))
 go_ret2
 exact ⟨by first | rfl | (simp; done) | (simp [*]; done), by repeat (first | exact Drawn0.refl _ | apply Drawn0.step)⟩
def strings_CutPrefix.f (a0 : ByteArray) (a1 : ByteArray) : Option (ByteArray × Bool) := (stringslite_CutPrefix.f a0 a1).bind fun bt260 => (some (bt260.1, bt260.2))
set_option maxHeartbeats 8000000 in
set_option maxRecDepth 100000 in
theorem strings_CutPrefix.calls (a0 : ByteArray) (a1 : ByteArray) (r1 : ByteArray) (r2 : Bool) (w : World) (h : strings_CutPrefix.f a0 a1 = some (r1, r2)) :
  Calls Tryz.prog 86 #[.string a0, .string a1] w fun e w' => e = .returned (.tuple #[.string r1, .bool r2]) ∧ Drawn0 w w' := by
 have H : ((stringslite_CutPrefix.f a0 a1).bind fun bt260 => (some (bt260.1, bt260.2))) = some (r1, r2) := h
 clear h
 replace H := Option.bind_eq_some_iff.mp H
 obtain ⟨⟨t260, t261⟩, A30, H⟩ := H
 replace H : (some (t260, t261)) = some (r1, r2) := H
 have A3 := Aside0.mk A30
 clear A30
 simp only [Option.some.injEq, Prod.mk.injEq] at H
 obtain ⟨rfl, rfl⟩ := H
 go_enter Tryz.func86, Tryz.ntmps86
 go_wp2_with (first | ((with_reducible refine gate_callee (f := 106) rfl ?_); refine gl_ (some 8) Tryz.func106 #[.string a0, .string a1] ?_; (with_reducible refine (stringslite_CutPrefix.calls a0 a1 t260 t261 _ A3.out).mono ?_); rintro e w' ⟨rfl, ⟨nd, rfl⟩⟩; refine ⟨_, rfl, ?_⟩))
 go_ret2
 exact ⟨by first | rfl | (simp; done) | (simp [*]; done), by repeat (first | exact Drawn0.refl _ | apply Drawn0.step)⟩
end Go.Proofs.YthbljhmjppjcjaaGreatDoor.Z
end

section
/- The contracts of path.Name, strings.Cut at one byte, path.Join. -/
namespace Go.Proofs.YthbljhmjppjcjaaGreatDoor.Z
open Go.RowKit Go.Proofs.YthbljhmjppjcjaaGreatDoorW.PrintWords Go.Proofs.YthbljhmjppjcjaaGreatDoorW.PrintLast
set_option linter.unusedVariables false
set_option linter.unusedSimpArgs false

/-- The first place of one byte. -/
def stringslite_Index.f (a0 a1 : ByteArray) : Option Int := if h : a1.size = 1 then some (Lib.indexByte a0.data.toList (a1.data[0]'(by have : a1.data.size = 1 := h; omega))) else none
theorem stringslite_Index.calls (a0 a1 : ByteArray) (r : Int) (w : World) (h : stringslite_Index.f a0 a1 = some r) :
    Calls Tryz.prog 97 #[.string a0, .string a1] w fun e w' => e = .returned (.int .i64 r) ∧ Drawn0 w w' := by
  unfold stringslite_Index.f at h
  split at h
  case isFalse => cases h
  case isTrue hs =>
    obtain ⟨d⟩ := a1
    obtain ⟨l⟩ := d
    match l, hs with
    | [c], _ =>
      obtain rfl := Option.some.inj h
      exact (Tryz.stringslite_Index_one a0 c w).mono fun e w' ⟨he, hw⟩ => ⟨he, hw ▸ Drawn0.refl _⟩
    | [], hs => exact absurd hs (by decide)
    | _ :: _ :: _, hs => exact absurd hs (by simp [ByteArray.size])

end Go.Proofs.YthbljhmjppjcjaaGreatDoor.Z
end

section
namespace Go.Proofs.YthbljhmjppjcjaaGreatDoor.Z
open Go.RowKit Go.Proofs.YthbljhmjppjcjaaGreatDoorW.PrintWords Go.Proofs.YthbljhmjppjcjaaGreatDoorW.PrintLast Go.Proofs.YthbljhmjppjcjaaGreatDoorW.PrintMore
attribute [local go_sem] max2_int min2_int max_two min_two max_three min_three max_four min_four   -- for this text's walks alone
set_option linter.unusedVariables false
set_option linter.unusedSimpArgs false
def stringslite_Cut.f (a0 : ByteArray) (a1 : ByteArray) : Option (ByteArray × ByteArray × Bool) := (stringslite_Index.f a0 a1).bind fun t262 => (if t262 ≥ 0 then (if 0 ≤ t262 then (if t262 ≤ (a0.size : Int) then (if 0 ≤ (wrap64 (t262 + (a1.size : Int))) then (if (wrap64 (t262 + (a1.size : Int))) ≤ (a0.size : Int) then (some (a0.extract 0 (t262 : Int).toNat, a0.extract ((wrap64 (t262 + (a1.size : Int))) : Int).toNat a0.size, true)) else (none)) else (none)) else (none)) else (none)) else (some (a0, (⟨#[]⟩ : ByteArray), false)))
set_option maxHeartbeats 8000000 in
set_option maxRecDepth 100000 in
theorem stringslite_Cut.calls (a0 : ByteArray) (a1 : ByteArray) (r1 : ByteArray) (r2 : ByteArray) (r3 : Bool) (w : World) (h : stringslite_Cut.f a0 a1 = some (r1, r2, r3)) :
  Calls Tryz.prog 107 #[.string a0, .string a1] w fun e w' => e = .returned (.tuple #[.string r1, .string r2, .bool r3]) ∧ Drawn0 w w' := by
 have H : ((stringslite_Index.f a0 a1).bind fun t262 => (if t262 ≥ 0 then (if 0 ≤ t262 then (if t262 ≤ (a0.size : Int) then (if 0 ≤ (wrap64 (t262 + (a1.size : Int))) then (if (wrap64 (t262 + (a1.size : Int))) ≤ (a0.size : Int) then (some (a0.extract 0 (t262 : Int).toNat, a0.extract ((wrap64 (t262 + (a1.size : Int))) : Int).toNat a0.size, true)) else (none)) else (none)) else (none)) else (none)) else (some (a0, (⟨#[]⟩ : ByteArray), false)))) = some (r1, r2, r3) := h
 clear h
 replace H := Option.bind_eq_some_iff.mp H
 obtain ⟨t262, A30, H⟩ := H
 replace H : (if t262 ≥ 0 then (if 0 ≤ t262 then (if t262 ≤ (a0.size : Int) then (if 0 ≤ (wrap64 (t262 + (a1.size : Int))) then (if (wrap64 (t262 + (a1.size : Int))) ≤ (a0.size : Int) then (some (a0.extract 0 (t262 : Int).toNat, a0.extract ((wrap64 (t262 + (a1.size : Int))) : Int).toNat a0.size, true)) else (none)) else (none)) else (none)) else (none)) else (some (a0, (⟨#[]⟩ : ByteArray), false))) = some (r1, r2, r3) := H
 have A3 := Aside0.mk A30
 clear A30
 by_cases c4 : t262 ≥ 0
 ·rw [if_pos c4] at H
  have c4b0 : decide (0 ≤ t262) = true := decide_eq_true c4
  clear c4
  by_cases c5 : 0 ≤ t262
  ·rw [if_pos c5] at H
   have c5b0 := eq_true c5
   have c5b1 : decide (0 ≤ t262) = true := decide_eq_true c5
   clear c5
   by_cases c6 : t262 ≤ (a0.size : Int)
   ·rw [if_pos c6] at H
    have c6b0 := eq_true c6
    have c6b1 : decide (t262 ≤ (a0.size : Int)) = true := decide_eq_true c6
    clear c6
    obtain ⟨ji7, hji7⟩ : ∃ j_ : Int, (wrap64 (t262 + (a1.size : Int))) = j_ := ⟨_, rfl⟩
    replace H : (if 0 ≤ (ji7) then (if (ji7) ≤ (a0.size : Int) then (some (a0.extract 0 (t262 : Int).toNat, a0.extract ((ji7) : Int).toNat a0.size, true)) else (none)) else (none)) = some (r1, r2, r3) := by first | (rw [hji7] at H; exact H) | (simp only [hji7] at H ⊢; exact H)
    (try rw [hji7] at A3)
    have hji7w : (IntKind.i64.wrap (t262 + (a1.size : Int))) = ji7 := (i64_w _).trans hji7
    by_cases c8 : 0 ≤ (ji7)
    ·rw [if_pos c8] at H
     have c8b0 := eq_true c8
     have c8b1 : decide (0 ≤ (ji7)) = true := decide_eq_true c8
     clear c8
     by_cases c9 : (ji7) ≤ (a0.size : Int)
     ·rw [if_pos c9] at H
      have c9b0 := eq_true c9
      have c9b1 : decide ((ji7) ≤ (a0.size : Int)) = true := decide_eq_true c9
      clear c9
      simp only [Option.some.injEq, Prod.mk.injEq] at H
      obtain ⟨rfl, rfl, rfl⟩ := H
      go_enter Tryz.func107, Tryz.ntmps107
      go_wp2_with (first | (go_at_call 97; (with_reducible refine (stringslite_Index.calls a0 a1 t262 _ A3.out).mono ?_); rintro e w' ⟨rfl, ⟨nd, rfl⟩⟩; (try first | exact ⟨rfl, _, World.drewN_drewN _ _ _⟩ | exact ⟨rfl, _, Eq.trans (World.drewN_drewN _ _ _) (congrArg (World.drewN _) (Nat.add_assoc _ _ _))⟩)))
      repeat (go_quiet (first | (go_at_call 97; (with_reducible refine (stringslite_Index.calls a0 a1 t262 _ A3.out).mono ?_); rintro e w' ⟨rfl, ⟨nd, rfl⟩⟩; (try first | exact ⟨rfl, _, World.drewN_drewN _ _ _⟩ | exact ⟨rfl, _, Eq.trans (World.drewN_drewN _ _ _) (congrArg (World.drewN _) (Nat.add_assoc _ _ _))⟩))); try go_wp2_with (first | (go_at_call 97; (with_reducible refine (stringslite_Index.calls a0 a1 t262 _ A3.out).mono ?_); rintro e w' ⟨rfl, ⟨nd, rfl⟩⟩; (try first | exact ⟨rfl, _, World.drewN_drewN _ _ _⟩ | exact ⟨rfl, _, Eq.trans (World.drewN_drewN _ _ _) (congrArg (World.drewN _) (Nat.add_assoc _ _ _))⟩))))
      go_ret3
      exact ⟨by first | rfl | (simp; done) | (simp only [← hji7] <;> (first | rfl | simp)) | (simp [*]; done), by repeat (first | exact Drawn0.refl _ | apply Drawn0.step)⟩
     rw [if_neg c9] at H
     exact absurd H (by simp)
    rw [if_neg c8] at H
    exact absurd H (by simp)
   rw [if_neg c6] at H
   exact absurd H (by simp)
  rw [if_neg c5] at H
  exact absurd H (by simp)
 rw [if_neg c4] at H
 have c4b0 : decide (0 ≤ t262) = false := decide_eq_false c4
 clear c4
 simp only [Option.some.injEq, Prod.mk.injEq] at H
 obtain ⟨rfl, rfl, rfl⟩ := H
 go_enter Tryz.func107, Tryz.ntmps107
 go_wp2_with (first | (go_at_call 97; (with_reducible refine (stringslite_Index.calls a0 a1 t262 _ A3.out).mono ?_); rintro e w' ⟨rfl, ⟨nd, rfl⟩⟩; (try first | exact ⟨rfl, _, World.drewN_drewN _ _ _⟩ | exact ⟨rfl, _, Eq.trans (World.drewN_drewN _ _ _) (congrArg (World.drewN _) (Nat.add_assoc _ _ _))⟩)))
 repeat (go_quiet (first | (go_at_call 97; (with_reducible refine (stringslite_Index.calls a0 a1 t262 _ A3.out).mono ?_); rintro e w' ⟨rfl, ⟨nd, rfl⟩⟩; (try first | exact ⟨rfl, _, World.drewN_drewN _ _ _⟩ | exact ⟨rfl, _, Eq.trans (World.drewN_drewN _ _ _) (congrArg (World.drewN _) (Nat.add_assoc _ _ _))⟩))); try go_wp2_with (first | (go_at_call 97; (with_reducible refine (stringslite_Index.calls a0 a1 t262 _ A3.out).mono ?_); rintro e w' ⟨rfl, ⟨nd, rfl⟩⟩; (try first | exact ⟨rfl, _, World.drewN_drewN _ _ _⟩ | exact ⟨rfl, _, Eq.trans (World.drewN_drewN _ _ _) (congrArg (World.drewN _) (Nat.add_assoc _ _ _))⟩))))
 go_ret3
 exact ⟨by first | rfl | (simp; done) | (simp [*]; done), by repeat (first | exact Drawn0.refl _ | apply Drawn0.step)⟩
def strings_Cut.f (a0 : ByteArray) (a1 : ByteArray) : Option (ByteArray × ByteArray × Bool) := (stringslite_Cut.f a0 a1).bind fun bt263 => (some (bt263.1, bt263.2.1, bt263.2.2))
set_option maxHeartbeats 8000000 in
set_option maxRecDepth 100000 in
theorem strings_Cut.calls (a0 : ByteArray) (a1 : ByteArray) (r1 : ByteArray) (r2 : ByteArray) (r3 : Bool) (w : World) (h : strings_Cut.f a0 a1 = some (r1, r2, r3)) :
  Calls Tryz.prog 87 #[.string a0, .string a1] w fun e w' => e = .returned (.tuple #[.string r1, .string r2, .bool r3]) ∧ Drawn0 w w' := by
 have H : ((stringslite_Cut.f a0 a1).bind fun bt263 => (some (bt263.1, bt263.2.1, bt263.2.2))) = some (r1, r2, r3) := h
 clear h
 replace H := Option.bind_eq_some_iff.mp H
 obtain ⟨⟨t263, t264, t265⟩, A30, H⟩ := H
 replace H : (some (t263, t264, t265)) = some (r1, r2, r3) := H
 have A3 := Aside0.mk A30
 clear A30
 simp only [Option.some.injEq, Prod.mk.injEq] at H
 obtain ⟨rfl, rfl, rfl⟩ := H
 go_enter Tryz.func87, Tryz.ntmps87
 go_wp2_with (first | ((with_reducible refine gate_callee (f := 107) rfl ?_); refine gl_ (some 9) Tryz.func107 #[.string a0, .string a1] ?_; (with_reducible refine (stringslite_Cut.calls a0 a1 t263 t264 t265 _ A3.out).mono ?_); rintro e w' ⟨rfl, ⟨nd, rfl⟩⟩; refine ⟨_, rfl, ?_⟩))
 go_ret3
 exact ⟨by first | rfl | (simp; done) | (simp [*]; done), by repeat (first | exact Drawn0.refl _ | apply Drawn0.step)⟩
def path_Split.l0 : Nat → ByteArray → List ByteArray → Option (List ByteArray × Int)
 | 0, _, _ => none
 | k + 1, x4, x6 => (strings_Cut.f x4 (⟨#[47]⟩ : ByteArray)).bind fun bt268 => ((path_Name.f bt268.1).bind fun t271 => (if t271 = true then (if x6.length < 8796093022208 then ((some (x6 ++ [bt268.1] : List ByteArray)).bind fun y272 => (if bt268.2.2 = true then (path_Split.l0 k bt268.2.1 y272) else (some (y272, 0)))) else (none)) else (some (([] : List ByteArray), 10))))
def path_Split.f (k : Nat) (a0 : ByteArray) : Option (List ByteArray × Int) := if (a0.size : Int) > 256 then (some (([] : List ByteArray), 2)) else ((strings_CutPrefix.f a0 (⟨#[47]⟩ : ByteArray)).bind fun bt266 => (if bt266.2 = true then (if bt266.1.toList = ([] : List UInt8) then (some (([] : List ByteArray), 0)) else (path_Split.l0 k bt266.1 ([] : List ByteArray))) else (some (([] : List ByteArray), 10))))
theorem path_Split.mono_l : ∀ k, (∀ y0 y1, LeO (path_Split.l0 k y0 y1) (path_Split.l0 (k + 1) y0 y1))
 | 0 => fun _ _ r h => by simp [path_Split.l0] at h
 | k + 1 => by
  have ih0 := path_Split.mono_l k
  ·intro y0 y1
   unfold path_Split.l0
   repeat' first
   | (with_reducible exact ih0 _ _)
   | (with_reducible exact LeO.refl _)
   | (with_reducible exact LeO.none _)
   | (with_reducible refine LeO.ite ?_ ?_)
   | (with_reducible refine LeO.bind ?_ (fun _ => ?_))
   | exact ih0 _ _
   | exact LeO.none _
   | refine LeO.ite ?_ ?_
   | refine LeO.bind ?_ (fun _ => ?_)
theorem path_Split.mono : ∀ a0 k, LeO (path_Split.f k a0) (path_Split.f (k + 1) a0) := by
 intro a0 k
 have ih0 := path_Split.mono_l k
 unfold path_Split.f
 repeat' first
   | (with_reducible exact ih0 _ _)
   | (with_reducible exact LeO.refl _)
   | (with_reducible exact LeO.none _)
   | (with_reducible refine LeO.ite ?_ ?_)
   | (with_reducible refine LeO.bind ?_ (fun _ => ?_))
   | exact ih0 _ _
   | exact LeO.none _
   | refine LeO.ite ?_ ?_
   | refine LeO.bind ?_ (fun _ => ?_)
set_option maxHeartbeats 8000000 in
set_option maxRecDepth 100000 in
theorem path_Split.calls (k : Nat) (a0 : ByteArray) (r1 : List ByteArray) (r2 : Int) (w : World) (h : path_Split.f k a0 = some (r1, r2)) :
  Calls Tryz.prog 60 #[.string a0] w fun e w' => ∃ v0_ : Value, e = .returned (.tuple #[v0_, .int .i64 r2]) ∧ Kd.R Kd.string 9 w' w.heap.size (fun _ => True) v0_ r1 ∧ Below w.heap.size w w' := by
 have HB := Aside0.mk (Below.refl w.heap.size w)
 have H : (if (a0.size : Int) > 256 then (some (([] : List ByteArray), 2)) else ((strings_CutPrefix.f a0 (⟨#[47]⟩ : ByteArray)).bind fun bt266 => (if bt266.2 = true then (if bt266.1.toList = ([] : List UInt8) then (some (([] : List ByteArray), 0)) else (path_Split.l0 k bt266.1 ([] : List ByteArray))) else (some (([] : List ByteArray), 10))))) = some (r1, r2) := h
 clear h
 by_cases c2 : (a0.size : Int) > 256
 ·rw [if_pos c2] at H
  have c2b0 : decide (256 < (a0.size : Int)) = true := decide_eq_true c2
  have c2b1 : decide (256 < a0.size) = true := decide_eq_true (by omega)
  clear c2
  simp only [Option.some.injEq, Prod.mk.injEq] at H
  obtain ⟨rfl, rfl⟩ := H
  go_enter Tryz.func60, Tryz.ntmps60
  go_wp2
  (try (refine wp_scope_post ?_; go_wp2))
  (try (go_step3; go_wp2))
  go_ret2
  exact ⟨_, by first | rfl | (simp [errW_none, errW_some] <;> rfl) | (simp [*, errW_none, errW_some] <;> rfl), by first | exact Kd.R_nil _ _ _ _ _ | exact Kd.N_nil _ _ _ _ _ | exact Kd.V_nil _ _ _ _ _ | exact Kd.Q_nil _ _ _ _ _ | exact Kd.S_nil _ _ _ _ _, bel_⟩
 rw [if_neg c2] at H
 have c2b0 : decide (256 < (a0.size : Int)) = false := decide_eq_false c2
 have c2b1 : decide (256 < a0.size) = false := decide_eq_false (by omega)
 clear c2
 replace H := Option.bind_eq_some_iff.mp H
 obtain ⟨⟨t266, t267⟩, A30, H⟩ := H
 replace H : (if t267 = true then (if t266.toList = ([] : List UInt8) then (some (([] : List ByteArray), 0)) else (path_Split.l0 k t266 ([] : List ByteArray))) else (some (([] : List ByteArray), 10))) = some (r1, r2) := H
 have A3 := Aside0.mk A30
 clear A30
 by_cases c4 : t267 = true
 ·subst c4
  have H1 : (if t266.toList = ([] : List UInt8) then (some (([] : List ByteArray), 0)) else (path_Split.l0 k t266 ([] : List ByteArray))) = some (r1, r2) := by rw [if_pos rfl] at H; exact H
  clear H
  have H := H1
  clear H1
  by_cases c5 : t266.toList = ([] : List UInt8)
  ·rw [if_pos c5] at H
   have c5b0 : (t266.toList == ([] : List UInt8)) = true := beq_iff_eq.mpr c5
   have c5b1 : (t266.toList != ([] : List UInt8)) = false := bne_eq_false_iff_eq.mpr c5
   clear c5
   simp only [Option.some.injEq, Prod.mk.injEq] at H
   obtain ⟨rfl, rfl⟩ := H
   go_enter Tryz.func60, Tryz.ntmps60
   go_wp2_with (first | ((with_reducible refine gate_callee (f := 86) rfl ?_); refine gl_ (some 15) Tryz.func86 #[.string a0, .string (⟨#[47]⟩ : ByteArray)] ?_; (with_reducible refine (strings_CutPrefix.calls a0 (⟨#[47]⟩ : ByteArray) t266 true _ A3.out).mono ?_); rintro e w' ⟨rfl, ⟨nd, rfl⟩⟩; refine ⟨_, rfl, ?_⟩))
   (try (refine wp_scope_post ?_; go_wp2_with (first | ((with_reducible refine gate_callee (f := 86) rfl ?_); refine gl_ (some 15) Tryz.func86 #[.string a0, .string (⟨#[47]⟩ : ByteArray)] ?_; (with_reducible refine (strings_CutPrefix.calls a0 (⟨#[47]⟩ : ByteArray) t266 true _ A3.out).mono ?_); rintro e w' ⟨rfl, ⟨nd, rfl⟩⟩; refine ⟨_, rfl, ?_⟩))))
   (try (go_step3; go_wp2_with (first | ((with_reducible refine gate_callee (f := 86) rfl ?_); refine gl_ (some 15) Tryz.func86 #[.string a0, .string (⟨#[47]⟩ : ByteArray)] ?_; (with_reducible refine (strings_CutPrefix.calls a0 (⟨#[47]⟩ : ByteArray) t266 true _ A3.out).mono ?_); rintro e w' ⟨rfl, ⟨nd, rfl⟩⟩; refine ⟨_, rfl, ?_⟩))))
   go_ret2
   exact ⟨_, by first | rfl | (simp [errW_none, errW_some] <;> rfl) | (simp [*, errW_none, errW_some] <;> rfl), by first | exact Kd.R_nil _ _ _ _ _ | exact Kd.N_nil _ _ _ _ _ | exact Kd.V_nil _ _ _ _ _ | exact Kd.Q_nil _ _ _ _ _ | exact Kd.S_nil _ _ _ _ _, bel_⟩
  rw [if_neg c5] at H
  have c5b0 : (t266.toList == ([] : List UInt8)) = false := beq_eq_false_iff_ne.mpr c5
  have c5b1 : (t266.toList != ([] : List UInt8)) = true := bne_iff_ne.mpr c5
  have H' := Aside0.mk H
  clear H
  go_enter Tryz.func60, Tryz.ntmps60
  go_wp2_with (first | ((with_reducible refine gate_callee (f := 86) rfl ?_); refine gl_ (some 15) Tryz.func86 #[.string a0, .string (⟨#[47]⟩ : ByteArray)] ?_; (with_reducible refine (strings_CutPrefix.calls a0 (⟨#[47]⟩ : ByteArray) t266 true _ A3.out).mono ?_); rintro e w' ⟨rfl, ⟨nd, rfl⟩⟩; refine ⟨_, rfl, ?_⟩))
  (try (refine wp_scope_post ?_; go_wp2_with (first | ((with_reducible refine gate_callee (f := 86) rfl ?_); refine gl_ (some 15) Tryz.func86 #[.string a0, .string (⟨#[47]⟩ : ByteArray)] ?_; (with_reducible refine (strings_CutPrefix.calls a0 (⟨#[47]⟩ : ByteArray) t266 true _ A3.out).mono ?_); rintro e w' ⟨rfl, ⟨nd, rfl⟩⟩; refine ⟨_, rfl, ?_⟩))))
  (try (go_step3; go_wp2_with (first | ((with_reducible refine gate_callee (f := 86) rfl ?_); refine gl_ (some 15) Tryz.func86 #[.string a0, .string (⟨#[47]⟩ : ByteArray)] ?_; (with_reducible refine (strings_CutPrefix.calls a0 (⟨#[47]⟩ : ByteArray) t266 true _ A3.out).mono ?_); rintro e w' ⟨rfl, ⟨nd, rfl⟩⟩; refine ⟨_, rfl, ?_⟩))))
  go_loopg [4, 6] k (fun kq v4 v6 w' => ∃ (x4_1 : ByteArray) (x6_1 : List ByteArray), v4 = .string x4_1 ∧ Aside0 (path_Split.l0 kq x4_1 x6_1 = some (r1, r2)) ∧ Aside0 (kq ≤ k) ∧ Aside0 (Kd.R Kd.string 9 w' w.heap.size (fun _ => True) v6 x6_1) ∧ Aside0 (Below w.heap.size w w'))
  case atStart => exact ⟨(t266), (([] : List ByteArray)), (by first | rfl | (simp; done) | (simp [*]; done)), H', ⟨Nat.le_refl _⟩, ⟨by first | exact Kd.R_nil _ _ _ _ _ | exact Kd.N_nil _ _ _ _ _ | exact Kd.V_nil _ _ _ _ _ | exact Kd.Q_nil _ _ _ _ _ | exact Kd.S_nil _ _ _ _ _⟩, ⟨bel_⟩⟩
  case round =>
   clear H'
   try clear c2
   try clear c2b0
   try clear c2b1
   try clear p2
   try clear c4
   try clear c5
   try clear c5b0
   try clear c5b1
   obtain ⟨x4_1, x6_1, rfl, HA, HK1, HO_6, HB⟩ := hrel
   cases gk with
   | zero => exact absurd HA.out (by simp [path_Split.l0])
   | succ k1 =>
    have H := HA.out
    clear HA
    simp only [path_Split.l0] at H
    replace H := Option.bind_eq_some_iff.mp H
    obtain ⟨⟨t268, t269, t270⟩, A60, H⟩ := H
    replace H : ((path_Name.f t268).bind fun t271 => (if t271 = true then (if x6_1.length < 8796093022208 then ((some (x6_1 ++ [t268] : List ByteArray)).bind fun y272 => (if t270 = true then (path_Split.l0 k1 t269 y272) else (some (y272, 0)))) else (none)) else (some (([] : List ByteArray), 10)))) = some (r1, r2) := H
    have A6 := Aside0.mk A60
    clear A60
    replace H := Option.bind_eq_some_iff.mp H
    obtain ⟨t271, A70, H⟩ := H
    replace H : (if t271 = true then (if x6_1.length < 8796093022208 then ((some (x6_1 ++ [t268] : List ByteArray)).bind fun y272 => (if t270 = true then (path_Split.l0 k1 t269 y272) else (some (y272, 0)))) else (none)) else (some (([] : List ByteArray), 10))) = some (r1, r2) := H
    have A7 := Aside0.mk A70
    clear A70
    by_cases c8 : t271 = true
    ·subst c8
     have H1 : (if x6_1.length < 8796093022208 then ((some (x6_1 ++ [t268] : List ByteArray)).bind fun y272 => (if t270 = true then (path_Split.l0 k1 t269 y272) else (some (y272, 0)))) else (none)) = some (r1, r2) := by rw [if_pos rfl] at H; exact H
     clear H
     have H := H1
     clear H1
     by_cases c9 : x6_1.length < 8796093022208
     ·rw [if_pos c9] at H
      have LMc9 := Aside0.mk c9
      clear c9
      obtain ⟨y272, hy272⟩ : ∃ y_ : List ByteArray, y_ = (x6_1 ++ [t268]) := ⟨_, rfl⟩
      replace H : (if t270 = true then (path_Split.l0 k1 t269 y272) else (some (y272, 0))) = some (r1, r2) := by first | (rw [hy272]; with_reducible exact H) | (have H2_ := (Option.bind_some _ _).symm.trans H; rw [hy272]; with_reducible exact H2_) | (have H2_ := (Option.bind_some _ _).symm.trans H; with_reducible exact H2_) | with_reducible exact H | (rw [hy272]; exact H) | exact H
      have Ny272 := Aside0.mk hy272
      clear hy272
      by_cases c10 : t270 = true
      ·subst c10
       have H1 : (path_Split.l0 k1 t269 y272) = some (r1, r2) := by rw [if_pos rfl] at H; exact H
       clear H
       have H := H1
       clear H1
       have H' := Aside0.mk H
       clear H
       go_wp2_with (first | ((with_reducible refine gate_callee (f := 87) rfl ?_); refine gl_ (some 24) Tryz.func87 #[.string x4_1, .string (⟨#[47]⟩ : ByteArray)] ?_; (with_reducible refine (strings_Cut.calls x4_1 (⟨#[47]⟩ : ByteArray) t268 t269 true _ A6.out).mono ?_); rintro e w' ⟨rfl, ⟨nd, rfl⟩⟩; refine ⟨_, rfl, ?_⟩) | ((with_reducible refine gate_callee (f := 49) rfl ?_); refine gl_ (some 29) Tryz.func49 #[.string t268] ?_; (with_reducible refine (path_Name.calls t268 true _ A7.out).mono ?_); rintro e w' ⟨rfl, ⟨nd, rfl⟩⟩; refine ⟨_, rfl, ?_⟩) | ((with_reducible refine gate_builtin (b := .append) (xs := #[.tmp 31, .tmp 33]) rfl ?_); at_builtin; refine Kd.R_append Kd.string (w0 := w) w.heap.size rfl (.tmp 31) (.tmp 33) 49 9 (.string ⟨#[]⟩) 16 rfl Tryz.underlying49 info9 rfl (by decide) (by omega) u6 x6_1 t268 [.string t268] (fun _ => True) (fun _ => False) rfl rfl ?aP (fun _ hk => hk.elim) ?aF ?aO ?aB ?aS ?aL ?_; (case aP => exact rfl); (case aB => exact bel_); (case aF => exact (fun _ _ => trivial)); (case aO => exact (ra_ HO_6)); (case aS => exact (below_size bel_)); (case aL => have := LMc9.out; omega); intro v273 w11 ho hb hg hat; rw [← Ny272.out] at ho; have HO274 := Aside0.mk (ho); replace HB := Aside0.mk (hb); clear HO_6; clear ho hb hg hat))
       (try (refine wp_scope_post ?_; go_wp2_with (first | ((with_reducible refine gate_callee (f := 87) rfl ?_); refine gl_ (some 24) Tryz.func87 #[.string x4_1, .string (⟨#[47]⟩ : ByteArray)] ?_; (with_reducible refine (strings_Cut.calls x4_1 (⟨#[47]⟩ : ByteArray) t268 t269 true _ A6.out).mono ?_); rintro e w' ⟨rfl, ⟨nd, rfl⟩⟩; refine ⟨_, rfl, ?_⟩) | ((with_reducible refine gate_callee (f := 49) rfl ?_); refine gl_ (some 29) Tryz.func49 #[.string t268] ?_; (with_reducible refine (path_Name.calls t268 true _ A7.out).mono ?_); rintro e w' ⟨rfl, ⟨nd, rfl⟩⟩; refine ⟨_, rfl, ?_⟩) | ((with_reducible refine gate_builtin (b := .append) (xs := #[.tmp 31, .tmp 33]) rfl ?_); at_builtin; refine Kd.R_append Kd.string (w0 := w) w.heap.size rfl (.tmp 31) (.tmp 33) 49 9 (.string ⟨#[]⟩) 16 rfl Tryz.underlying49 info9 rfl (by decide) (by omega) u6 x6_1 t268 [.string t268] (fun _ => True) (fun _ => False) rfl rfl ?aP (fun _ hk => hk.elim) ?aF ?aO ?aB ?aS ?aL ?_; (case aP => exact rfl); (case aB => exact bel_); (case aF => exact (fun _ _ => trivial)); (case aO => exact (ra_ HO_6)); (case aS => exact (below_size bel_)); (case aL => have := LMc9.out; omega); intro v273 w11 ho hb hg hat; rw [← Ny272.out] at ho; have HO274 := Aside0.mk (ho); replace HB := Aside0.mk (hb); clear HO_6; clear ho hb hg hat))))
       (try (go_step3; go_wp2_with (first | ((with_reducible refine gate_callee (f := 87) rfl ?_); refine gl_ (some 24) Tryz.func87 #[.string x4_1, .string (⟨#[47]⟩ : ByteArray)] ?_; (with_reducible refine (strings_Cut.calls x4_1 (⟨#[47]⟩ : ByteArray) t268 t269 true _ A6.out).mono ?_); rintro e w' ⟨rfl, ⟨nd, rfl⟩⟩; refine ⟨_, rfl, ?_⟩) | ((with_reducible refine gate_callee (f := 49) rfl ?_); refine gl_ (some 29) Tryz.func49 #[.string t268] ?_; (with_reducible refine (path_Name.calls t268 true _ A7.out).mono ?_); rintro e w' ⟨rfl, ⟨nd, rfl⟩⟩; refine ⟨_, rfl, ?_⟩) | ((with_reducible refine gate_builtin (b := .append) (xs := #[.tmp 31, .tmp 33]) rfl ?_); at_builtin; refine Kd.R_append Kd.string (w0 := w) w.heap.size rfl (.tmp 31) (.tmp 33) 49 9 (.string ⟨#[]⟩) 16 rfl Tryz.underlying49 info9 rfl (by decide) (by omega) u6 x6_1 t268 [.string t268] (fun _ => True) (fun _ => False) rfl rfl ?aP (fun _ hk => hk.elim) ?aF ?aO ?aB ?aS ?aL ?_; (case aP => exact rfl); (case aB => exact bel_); (case aF => exact (fun _ _ => trivial)); (case aO => exact (ra_ HO_6)); (case aS => exact (below_size bel_)); (case aL => have := LMc9.out; omega); intro v273 w11 ho hb hg hat; rw [← Ny272.out] at ho; have HO274 := Aside0.mk (ho); replace HB := Aside0.mk (hb); clear HO_6; clear ho hb hg hat))))
       go_roundg k1
       case measure => have := HK1.out; omega
       case rel => exact ⟨(t269), (y272), (by first | rfl | (simp; done) | (simp [*]; done)), H', ⟨by have := HK1.out; omega⟩, ⟨ra_ HO274⟩, ⟨bel_⟩⟩
      replace c10 := Bool.eq_false_iff.mpr c10
      subst c10
      have H1 : (some (y272, 0)) = some (r1, r2) := by rw [if_neg (show ¬ (false = true) by decide)] at H; exact H
      clear H
      have H := H1
      clear H1
      simp only [Option.some.injEq, Prod.mk.injEq] at H
      obtain ⟨rfl, rfl⟩ := H
      go_wp2_with (first | ((with_reducible refine gate_callee (f := 87) rfl ?_); refine gl_ (some 24) Tryz.func87 #[.string x4_1, .string (⟨#[47]⟩ : ByteArray)] ?_; (with_reducible refine (strings_Cut.calls x4_1 (⟨#[47]⟩ : ByteArray) t268 t269 false _ A6.out).mono ?_); rintro e w' ⟨rfl, ⟨nd, rfl⟩⟩; refine ⟨_, rfl, ?_⟩) | ((with_reducible refine gate_callee (f := 49) rfl ?_); refine gl_ (some 29) Tryz.func49 #[.string t268] ?_; (with_reducible refine (path_Name.calls t268 true _ A7.out).mono ?_); rintro e w' ⟨rfl, ⟨nd, rfl⟩⟩; refine ⟨_, rfl, ?_⟩) | ((with_reducible refine gate_builtin (b := .append) (xs := #[.tmp 31, .tmp 33]) rfl ?_); at_builtin; refine Kd.R_append Kd.string (w0 := w) w.heap.size rfl (.tmp 31) (.tmp 33) 49 9 (.string ⟨#[]⟩) 16 rfl Tryz.underlying49 info9 rfl (by decide) (by omega) u6 x6_1 t268 [.string t268] (fun _ => True) (fun _ => False) rfl rfl ?aP (fun _ hk => hk.elim) ?aF ?aO ?aB ?aS ?aL ?_; (case aP => exact rfl); (case aB => exact bel_); (case aF => exact (fun _ _ => trivial)); (case aO => exact (ra_ HO_6)); (case aS => exact (below_size bel_)); (case aL => have := LMc9.out; omega); intro v273 w12 ho hb hg hat; rw [← Ny272.out] at ho; have HO274 := Aside0.mk (ho); replace HB := Aside0.mk (hb); clear HO_6; clear ho hb hg hat))
      (try (refine wp_scope_post ?_; go_wp2_with (first | ((with_reducible refine gate_callee (f := 87) rfl ?_); refine gl_ (some 24) Tryz.func87 #[.string x4_1, .string (⟨#[47]⟩ : ByteArray)] ?_; (with_reducible refine (strings_Cut.calls x4_1 (⟨#[47]⟩ : ByteArray) t268 t269 false _ A6.out).mono ?_); rintro e w' ⟨rfl, ⟨nd, rfl⟩⟩; refine ⟨_, rfl, ?_⟩) | ((with_reducible refine gate_callee (f := 49) rfl ?_); refine gl_ (some 29) Tryz.func49 #[.string t268] ?_; (with_reducible refine (path_Name.calls t268 true _ A7.out).mono ?_); rintro e w' ⟨rfl, ⟨nd, rfl⟩⟩; refine ⟨_, rfl, ?_⟩) | ((with_reducible refine gate_builtin (b := .append) (xs := #[.tmp 31, .tmp 33]) rfl ?_); at_builtin; refine Kd.R_append Kd.string (w0 := w) w.heap.size rfl (.tmp 31) (.tmp 33) 49 9 (.string ⟨#[]⟩) 16 rfl Tryz.underlying49 info9 rfl (by decide) (by omega) u6 x6_1 t268 [.string t268] (fun _ => True) (fun _ => False) rfl rfl ?aP (fun _ hk => hk.elim) ?aF ?aO ?aB ?aS ?aL ?_; (case aP => exact rfl); (case aB => exact bel_); (case aF => exact (fun _ _ => trivial)); (case aO => exact (ra_ HO_6)); (case aS => exact (below_size bel_)); (case aL => have := LMc9.out; omega); intro v273 w12 ho hb hg hat; rw [← Ny272.out] at ho; have HO274 := Aside0.mk (ho); replace HB := Aside0.mk (hb); clear HO_6; clear ho hb hg hat))))
      (try (go_step3; go_wp2_with (first | ((with_reducible refine gate_callee (f := 87) rfl ?_); refine gl_ (some 24) Tryz.func87 #[.string x4_1, .string (⟨#[47]⟩ : ByteArray)] ?_; (with_reducible refine (strings_Cut.calls x4_1 (⟨#[47]⟩ : ByteArray) t268 t269 false _ A6.out).mono ?_); rintro e w' ⟨rfl, ⟨nd, rfl⟩⟩; refine ⟨_, rfl, ?_⟩) | ((with_reducible refine gate_callee (f := 49) rfl ?_); refine gl_ (some 29) Tryz.func49 #[.string t268] ?_; (with_reducible refine (path_Name.calls t268 true _ A7.out).mono ?_); rintro e w' ⟨rfl, ⟨nd, rfl⟩⟩; refine ⟨_, rfl, ?_⟩) | ((with_reducible refine gate_builtin (b := .append) (xs := #[.tmp 31, .tmp 33]) rfl ?_); at_builtin; refine Kd.R_append Kd.string (w0 := w) w.heap.size rfl (.tmp 31) (.tmp 33) 49 9 (.string ⟨#[]⟩) 16 rfl Tryz.underlying49 info9 rfl (by decide) (by omega) u6 x6_1 t268 [.string t268] (fun _ => True) (fun _ => False) rfl rfl ?aP (fun _ hk => hk.elim) ?aF ?aO ?aB ?aS ?aL ?_; (case aP => exact rfl); (case aB => exact bel_); (case aF => exact (fun _ _ => trivial)); (case aO => exact (ra_ HO_6)); (case aS => exact (below_size bel_)); (case aL => have := LMc9.out; omega); intro v273 w12 ho hb hg hat; rw [← Ny272.out] at ho; have HO274 := Aside0.mk (ho); replace HB := Aside0.mk (hb); clear HO_6; clear ho hb hg hat))))
      go_ret2
      exact ⟨_, by first | rfl | (simp [errW_none, errW_some] <;> rfl) | (simp [*, errW_none, errW_some] <;> rfl), by (with_reducible repeat (first | apply Kd.R_alloc | apply Kd.R_drewN | apply Kd.R_drew)); exact HO274.out, bel_⟩
     rw [if_neg c9] at H
     exact absurd H (by simp)
    replace c8 := Bool.eq_false_iff.mpr c8
    subst c8
    have H1 : (some (([] : List ByteArray), 10)) = some (r1, r2) := by rw [if_neg (show ¬ (false = true) by decide)] at H; exact H
    clear H
    have H := H1
    clear H1
    simp only [Option.some.injEq, Prod.mk.injEq] at H
    obtain ⟨rfl, rfl⟩ := H
    go_wp2_with (first | ((with_reducible refine gate_callee (f := 87) rfl ?_); refine gl_ (some 24) Tryz.func87 #[.string x4_1, .string (⟨#[47]⟩ : ByteArray)] ?_; (with_reducible refine (strings_Cut.calls x4_1 (⟨#[47]⟩ : ByteArray) t268 t269 t270 _ A6.out).mono ?_); rintro e w' ⟨rfl, ⟨nd, rfl⟩⟩; refine ⟨_, rfl, ?_⟩) | ((with_reducible refine gate_callee (f := 49) rfl ?_); refine gl_ (some 29) Tryz.func49 #[.string t268] ?_; (with_reducible refine (path_Name.calls t268 false _ A7.out).mono ?_); rintro e w' ⟨rfl, ⟨nd, rfl⟩⟩; refine ⟨_, rfl, ?_⟩))
    (try (refine wp_scope_post ?_; go_wp2_with (first | ((with_reducible refine gate_callee (f := 87) rfl ?_); refine gl_ (some 24) Tryz.func87 #[.string x4_1, .string (⟨#[47]⟩ : ByteArray)] ?_; (with_reducible refine (strings_Cut.calls x4_1 (⟨#[47]⟩ : ByteArray) t268 t269 t270 _ A6.out).mono ?_); rintro e w' ⟨rfl, ⟨nd, rfl⟩⟩; refine ⟨_, rfl, ?_⟩) | ((with_reducible refine gate_callee (f := 49) rfl ?_); refine gl_ (some 29) Tryz.func49 #[.string t268] ?_; (with_reducible refine (path_Name.calls t268 false _ A7.out).mono ?_); rintro e w' ⟨rfl, ⟨nd, rfl⟩⟩; refine ⟨_, rfl, ?_⟩))))
    (try (go_step3; go_wp2_with (first | ((with_reducible refine gate_callee (f := 87) rfl ?_); refine gl_ (some 24) Tryz.func87 #[.string x4_1, .string (⟨#[47]⟩ : ByteArray)] ?_; (with_reducible refine (strings_Cut.calls x4_1 (⟨#[47]⟩ : ByteArray) t268 t269 t270 _ A6.out).mono ?_); rintro e w' ⟨rfl, ⟨nd, rfl⟩⟩; refine ⟨_, rfl, ?_⟩) | ((with_reducible refine gate_callee (f := 49) rfl ?_); refine gl_ (some 29) Tryz.func49 #[.string t268] ?_; (with_reducible refine (path_Name.calls t268 false _ A7.out).mono ?_); rintro e w' ⟨rfl, ⟨nd, rfl⟩⟩; refine ⟨_, rfl, ?_⟩))))
    go_ret2
    exact ⟨_, by first | rfl | (simp [errW_none, errW_some] <;> rfl) | (simp [*, errW_none, errW_some] <;> rfl), by first | exact Kd.R_nil _ _ _ _ _ | exact Kd.N_nil _ _ _ _ _ | exact Kd.V_nil _ _ _ _ _ | exact Kd.Q_nil _ _ _ _ _ | exact Kd.S_nil _ _ _ _ _, bel_⟩
 replace c4 := Bool.eq_false_iff.mpr c4
 subst c4
 have H1 : (some (([] : List ByteArray), 10)) = some (r1, r2) := by rw [if_neg (show ¬ (false = true) by decide)] at H; exact H
 clear H
 have H := H1
 clear H1
 simp only [Option.some.injEq, Prod.mk.injEq] at H
 obtain ⟨rfl, rfl⟩ := H
 go_enter Tryz.func60, Tryz.ntmps60
 go_wp2_with (first | ((with_reducible refine gate_callee (f := 86) rfl ?_); refine gl_ (some 15) Tryz.func86 #[.string a0, .string (⟨#[47]⟩ : ByteArray)] ?_; (with_reducible refine (strings_CutPrefix.calls a0 (⟨#[47]⟩ : ByteArray) t266 false _ A3.out).mono ?_); rintro e w' ⟨rfl, ⟨nd, rfl⟩⟩; refine ⟨_, rfl, ?_⟩))
 (try (refine wp_scope_post ?_; go_wp2_with (first | ((with_reducible refine gate_callee (f := 86) rfl ?_); refine gl_ (some 15) Tryz.func86 #[.string a0, .string (⟨#[47]⟩ : ByteArray)] ?_; (with_reducible refine (strings_CutPrefix.calls a0 (⟨#[47]⟩ : ByteArray) t266 false _ A3.out).mono ?_); rintro e w' ⟨rfl, ⟨nd, rfl⟩⟩; refine ⟨_, rfl, ?_⟩))))
 (try (go_step3; go_wp2_with (first | ((with_reducible refine gate_callee (f := 86) rfl ?_); refine gl_ (some 15) Tryz.func86 #[.string a0, .string (⟨#[47]⟩ : ByteArray)] ?_; (with_reducible refine (strings_CutPrefix.calls a0 (⟨#[47]⟩ : ByteArray) t266 false _ A3.out).mono ?_); rintro e w' ⟨rfl, ⟨nd, rfl⟩⟩; refine ⟨_, rfl, ?_⟩))))
 go_ret2
 exact ⟨_, by first | rfl | (simp [errW_none, errW_some] <;> rfl) | (simp [*, errW_none, errW_some] <;> rfl), by first | exact Kd.R_nil _ _ _ _ _ | exact Kd.N_nil _ _ _ _ _ | exact Kd.V_nil _ _ _ _ _ | exact Kd.Q_nil _ _ _ _ _ | exact Kd.S_nil _ _ _ _ _, bel_⟩
end Go.Proofs.YthbljhmjppjcjaaGreatDoor.Z
end

section
/- dirs: (*Volume).Walk (printed by genwalk.py). -/
namespace Go.Proofs.YthbljhmjppjcjaaGreatDoor.Z
open Go.RowKit Go.Proofs.YthbljhmjppjcjaaGreatDoorW.PrintWords Go.Proofs.YthbljhmjppjcjaaGreatDoorW.PrintLast Go.Proofs.YthbljhmjppjcjaaGreatDoorW.PrintMore
set_option linter.unusedVariables false
set_option linter.unusedSimpArgs false
attribute [local go_sem ↓] Go.wp_at_zero Go.wp_at_succ
theorem C_tail {w : World} {b o : Nat} {x : ByteArray} {r : List ByteArray} (h : Kd.C Kd.string w (some ⟨b, o, none⟩) (x :: r).length (x :: r)) : w.cell? ⟨b, o, none⟩ = some (.string x) ∧ Kd.C Kd.string w (some ⟨b, o + 1, none⟩) r.length r := by
  obtain ⟨hl, hmx, hc0⟩ := h
  obtain ⟨ad, had, hc⟩ := hc0 (by simp)
  obtain rfl := Option.some.inj had
  have hcell : ∀ j y, (x :: r)[j]? = some y → w.cell? ⟨b, o + j, none⟩ = some (.string y) := by
    intro j y hy
    obtain ⟨c, hs, hr, hcell⟩ := hc j y hy
    have hr' : c = [.string y] := hr
    subst hr'
    have := hcell 0 _ rfl
    rw [show (Kd.string).sz = 1 from rfl, show j * 1 + 0 = j by omega, add_at] at this
    exact this
  refine ⟨hcell 0 x rfl, rfl, by simp at hmx; omega, fun _ => ⟨_, rfl, fun j y hy => ⟨[.string y], rfl, rfl, fun i u hu => ?_⟩⟩⟩
  have h1 := hcell (j + 1) y (by simpa using hy)
  cases i with
  | zero =>
    obtain rfl : (.string y : Value) = u := by simpa using hu
    rw [show (Kd.string).sz = 1 from rfl, show j * 1 + 0 = j by omega, add_at, show o + 1 + j = o + (j + 1) by omega]
    exact h1
  | succ i => simp at hu
theorem C_none0 {w : World} (A : Option Addr) : Kd.C Kd.string w A ([] : List ByteArray).length [] := ⟨rfl, by simp, fun h => absurd h (Nat.lt_irrefl 0)⟩
set_option maxRecDepth 100000 in
theorem run_tail (b o cn m : Nat) (hm : m + 1 ≤ cn) (w : World) : (Instr.sliceAt 49 (.slice (some ⟨b, o, none⟩) (m + 1) cn) (some (.int .i64 1)) none none).run Tryz.prog w = .ok (.slice (if cn = 1 then some ⟨b, o, none⟩ else some ⟨b, o + 1, none⟩) m (cn - 1)) w := by
  have p1 := eq_true (show (1 : Int) ≤ (m : Int) + 1 by omega)
  have p2 := eq_true (show (m : Int) + 1 ≤ (cn : Int) by omega)
  by_cases h : cn = 1
  · subst h
    obtain rfl : m = 0 := by omega
    go_simp
  · have h2 := eq_false h
    go_simp
theorem tail_event {ops : Array Oper} {rest : List Oper} {o : Oper} {a : Act} {Q : Exit → Act → World → Prop} {W : World} (hg : o.guard = none) (x : Operand) (hop : o.op = .slice 49 x (some (.const (.int .i64 1))) none none) {b off cn m : Nat} (hx : a.eval x = .slice (some ⟨b, off, none⟩) (m + 1) cn) (hm : m + 1 ≤ cn)
    (h : ∀ A', A' = (if cn = 1 then some ⟨b, off, none⟩ else some ⟨b, off + 1, none⟩) → wpList Tryz.prog ops Q rest (a.put o.dst (.slice A' m (cn - 1))) W) : wpList Tryz.prog ops Q (o :: rest) a W := by
  refine Kd.event_run (v := .slice (if cn = 1 then some ⟨b, off, none⟩ else some ⟨b, off + 1, none⟩) m (cn - 1)) (w1 := W) hg ?_ (h _ rfl)
  have hr := run_tail b off cn m hm W
  have he : a.eval (.const (.int .i64 1)) = .int .i64 1 := rfl
  unfold execOp
  simp [hop, hx, he, hr]
theorem C_tail2 {w : World} {A' : Option Addr} {b o cn : Nat} {r : List ByteArray} (h : Kd.C Kd.string w (some ⟨b, o + 1, none⟩) r.length r) (hA : A' = (if cn = 1 then some ⟨b, o, none⟩ else some ⟨b, o + 1, none⟩)) (hc : r.length + 1 ≤ cn) : Kd.C Kd.string w A' r.length r := by
  subst hA
  split
  · cases r with
    | nil => exact C_none0 _
    | cons y r => simp at hc; omega
  · exact h
theorem litv_event {P : Program} {ops : Array Oper} {rest : List Oper} {o : Oper} {a : Act} {Q : Exit → Act → World → Prop} {W : World} {cs : Array Value} {t : TypeId} {n : Nat} (hgd : o.guard = none) (hrun : (execOp a.eval o).run P W = .ok (.value (.slice (some ⟨W.heap.size, 0, none⟩) n n)) (W.alloc (.cells cs t (0, 0))))
    (h : ∀ g, g = W.heap.size → ∀ w1, w1.heap[g]? = some (.cells cs t (0, 0)) → Below W.heap.size W w1 → wpList P ops Q rest (a.put o.dst (.slice (some ⟨g, 0, none⟩) n n)) w1) : wpList P ops Q (o :: rest) a W :=
  Kd.event_run hgd hrun (h _ rfl _ (blk_new W _) (below_alloc (Below.refl _ _) _))
/-- Going along names. -/
def walkL (l : List VIT) (s : VS) (follow : Bool) : Nat → List ByteArray → Int → Int → Option (Int × Int)
  | 0, _, _, _ => none
  | k + 1, [], a, _ => some (a, 0)
  | k + 1, x :: r, a, ln => if ((s.ino a).getD zI).kd = 1 then (entryF k l a x).bind fun t => if t = 0 then some (0, 5) else
      if ((s.ino t).getD zI).kd = 3 ∧ ¬ (r = [] ∧ follow = false) then
        (if 8 < ln + 1 then some (0, 15) else (path_Split.f k ((s.ino t).getD zI).tg).bind fun p => if p.2 = 0 then (if p.1.length + r.length ≤ 10995116277760 then walkL l s follow k (p.1 ++ r) 1 (ln + 1) else none) else some (0, p.2))
      else walkL l s follow k r t ln else some (0, 12)
theorem walkL.mono (l : List VIT) (s : VS) (follow : Bool) : ∀ (k : Nat) (ns : List ByteArray) (a ln : Int), LeO (walkL l s follow k ns a ln) (walkL l s follow (k + 1) ns a ln)
  | 0, ns, a, ln => fun r h => by simp [walkL] at h
  | k + 1, [], a, ln => LeO.refl _
  | k + 1, x :: r, a, ln => by
    unfold walkL
    exact LeO.ite (LeO.bind (entryF.mono _ _ _ _) (fun _ => LeO.ite (LeO.refl _) (LeO.ite (LeO.ite (LeO.refl _) (LeO.bind (path_Split.mono _ _) (fun _ => LeO.ite (LeO.ite (walkL.mono l s follow k _ _ _) (LeO.none _)) (LeO.refl _)))) (walkL.mono l s follow k _ _ _)))) (LeO.refl _)
set_option maxRecDepth 100000 in
set_option maxHeartbeats 12800000 in
theorem walk_calls (k : Nat) (g base : Nat) (A : Option Addr) (c : Nat) (l : List VIT) (sm : Int) (s : VS) (An : Option Addr) (cn : Nat) (names : List ByteArray) (follow : Bool) (r1 r2 : Int) (w : World) (hV : VolOf w g base A c l sm s) (hC : Kd.C k71 w A l.length l) (hc : l.length ≤ c) (hN : Kd.C Kd.string w An names.length names) (hcn : names.length ≤ cn) (h : walkL l s follow k names 1 0 = some (r1, r2)) :
    Calls Tryz.prog 34 #[.pointer (some ⟨g, 0, none⟩), .slice An names.length cn, .bool follow] w fun e w' => e = .returned (.tuple #[.int .u32 r1, .int .i64 r2]) ∧ Below w.heap.size w w' := by
  obtain ⟨va, bi, bu, hG, hA, hI, _⟩ := id hV
  have hnot : ∀ (x : Bool) (w : World), (Op.unary .not (.bool x)).run Tryz.prog w = .ok (.bool (!x)) w := fun _ _ => rfl
  have HV := Aside0.mk hV
  have HC := Aside0.mk hC
  have HP := Aside0.mk hc
  have HNN := Aside0.mk hN
  have HCN := Aside0.mk hcn
  have H := Aside0.mk h
  have GB := Aside0.mk hG
  have MI := Aside0.mk hI
  clear hV hC hc hN hcn h hG hA hI
  go_enter Tryz.func34, Tryz.ntmps34
  go_wp2
  go_loopg [1, 8, 9] k (fun kq vn va vl wr => ∃ (An : Option Addr) (cn : Nat) (ns : List ByteArray) (a ln : Int), vn = .slice An ns.length cn ∧ va = .int .u32 a ∧ vl = .int .i64 ln ∧ Aside0 (walkL l s follow kq ns a ln = some (r1, r2)) ∧ Aside0 (kq ≤ k) ∧ Aside0 (0 ≤ a ∧ a < 4294967296) ∧ Aside0 (0 ≤ ln ∧ ln ≤ 8) ∧ Aside0 (ns.length ≤ cn) ∧ Aside0 (Kd.C Kd.string wr An ns.length ns) ∧ Aside0 (Below w.heap.size w wr))
  case atStart => exact ⟨An, cn, names, 1, 0, rfl, rfl, rfl, H, ⟨Nat.le_refl _⟩, ⟨by decide⟩, ⟨by decide⟩, HCN, HNN, ⟨Below.refl _ _⟩⟩
  case round =>
    obtain ⟨An, cn, ns, a, ln, rfl, rfl, rfl, HA, HK1, HAT, HLN, HCP, HNS, HB⟩ := hrel
    cases gk with
    | zero => exact absurd HA.out (by simp [walkL])
    | succ k1 =>
      cases ns with
      | nil =>
        have hR := HA.out
        rw [walkL] at hR
        have hR2 := Option.some.inj hR
        simp only [Prod.mk.injEq] at hR2
        obtain ⟨rfl, rfl⟩ := hR2
        clear hR HA
        go_wp2
        go_ret2
        exact ⟨rfl, HB.out⟩
      | cons x r =>
        have hR := HA.out
        rw [walkL] at hR
        obtain ⟨b_, o_, hAn, _, _⟩ := C_strings HNS.out (by simp)
        subst hAn
        obtain ⟨z0, hnr⟩ := C_tail HNS.out
        have HNR := Aside0.mk hnr
        have q6 : wr.cell? ⟨g, 6, none⟩ = some (.map (some bi)) := (blk_cell (blk_below GB.out HB.out) 6).trans rfl
        obtain ⟨n1, hn1⟩ : ∃ n1, n1 = (s.ino a).getD zI := ⟨_, rfl⟩
        rw [← hn1] at hR
        have HN1 := Aside0.mk hn1
        have lk := lookN (MI.out.below HB.out) HAT.out HN1.out
        have fl := fieldI n1
        have p1 := eq_true (show (1 : Int) ≤ (r.length : Int) + 1 by omega)
        have p2 := eq_true (show (r.length : Int) + 1 ≤ (cn : Int) by have := HCP.out; simp at this; omega)
        have e_len : decide ((0 : Int) < (r.length : Int) + 1) = true := decide_eq_true (by omega)
        clear hn1 hnr HA
        by_cases k0 : n1.kd = 1
        · rw [if_pos k0] at hR
          have e0 : (n1.kd != 1) = false := bne_eq_false_iff_eq.2 k0
          obtain ⟨tt, ht, hR⟩ := Option.bind_eq_some_iff.mp hR
          have HE := Aside0.mk ht
          have HTW := Aside0.mk (entry_wf ht)
          obtain ⟨n2, hn2⟩ : ∃ n2, n2 = (s.ino tt).getD zI := ⟨_, rfl⟩
          rw [← hn2] at hR
          have HN2 := Aside0.mk hn2
          have HRR := Aside0.mk hR
          clear hR ht hn2 k0
          by_cases h0 : tt = 0
          · have e1 : (tt == 0) = true := beq_iff_eq.2 h0
            have hR2 := HRR.out
            rw [if_pos h0] at hR2
            have hR3 := Option.some.inj hR2
            simp only [Prod.mk.injEq] at hR3
            obtain ⟨rfl, rfl⟩ := hR3
            clear hR2 h0
            go_wp2_with (first | (go_at_call 59; refine (entry_calls k1 g base A c l sm s a x tt _ (HV.out.below HB.out) (Kd.C_below HC.out HB.out) HP.out HE.out).mono ?_; rintro e w3 ⟨rfl, hb3⟩; have B3 := Aside0.mk (below_step HB.out hb3); have D3 := Aside0.mk hb3; have q6 : w3.cell? ⟨g, 6, none⟩ = some (.map (some bi)) := (blk_cell (blk_below GB.out B3.out) 6).trans rfl; have lk := lookN (MI.out.below B3.out) HTW.out HN2.out; clear hb3 z0))
            go_ret2
            exact ⟨rfl, B3.out⟩
          · have e1 : (tt == 0) = false := beq_eq_false_iff_ne.2 h0
            have hR2 := HRR.out
            rw [if_neg h0] at hR2
            clear h0 HRR hR
            by_cases k3 : n2.kd = 3
            · have e3 : (n2.kd != 3) = false := bne_eq_false_iff_eq.2 k3
              by_cases hr : r = []
              · subst hr
                cases follow with
                | false =>
                  rw [if_neg (fun h => h.2 ⟨rfl, rfl⟩)] at hR2
                  have HRR := Aside0.mk hR2
                  clear hR2 k3
                  go_wp2_with (first
                    | (go_at_call 59; refine (entry_calls k1 g base A c l sm s a x tt _ (HV.out.below HB.out) (Kd.C_below HC.out HB.out) HP.out HE.out).mono ?_; rintro e w3 ⟨rfl, hb3⟩; have B3 := Aside0.mk (below_step HB.out hb3); have D3 := Aside0.mk hb3; have q6 : w3.cell? ⟨g, 6, none⟩ = some (.map (some bi)) := (blk_cell (blk_below GB.out B3.out) 6).trans rfl; have lk := lookN (MI.out.below B3.out) HTW.out HN2.out; clear hb3 z0)
                    | ((with_reducible refine gate_dst (N := 33) rfl ?_); refine tail_event rfl (.tmp 32) rfl (b := b_) (off := o_) (cn := cn) (m := 0) rfl (by have := HCP.out; simpa using this) ?_; intro A' hA'; have HT3 := Aside0.mk (C_tail2 (Kd.C_below HNR.out D3.out) hA' (by have := HCP.out; simpa using this)); clear hA')
                    | ((with_reducible refine gate_dst (N := 10) rfl ?_); refine var_event (N := 10) (T := 33) (n := 5) (zc := #[.int .u8 0, .int .u16 0, .int .u32 0, .int .u32 0, .string ⟨#[]⟩]) (cs := #[.int .u8 n2.kd, .int .u16 n2.md, .int .u32 n2.ln, .int .u32 n2.sz, .string n2.tg]) rfl rfl rfl (.tmp 39) rfl rfl ?hr (by kernel_rfl) rfl rfl rfl ?hx ?hN ?_; (case hx => intro p_; rfl); (case hN => intro p_; rfl); (case hr => first | (go_simp; done) | (go_simp; rfl)); intro gn hgn w4 hx4 hb4; have Z4 := Aside0.mk hx4; have D4 := Aside0.mk hb4; have B4 := Aside0.mk (below_step B3.out hb4); have y0 : w4.cell? ⟨gn, 0, none⟩ = some (.int .u8 n2.kd) := (blk_cell Z4.out 0).trans rfl; have y4 : w4.cell? ⟨gn, 4, none⟩ = some (.string n2.tg) := (blk_cell Z4.out 4).trans rfl; clear hx4 hb4 hgn q6 lk))
                  go_roundg k1
                  case measure => have := HK1.out; omega
                  case rel => exact ⟨A', cn - 1, [], tt, ln, rfl, rfl, rfl, HRR, ⟨by have := HK1.out; omega⟩, HTW, HLN, ⟨by first | (simp; done) | (have := HCP.out; simp at this; omega)⟩, ⟨Kd.C_below HT3.out D4.out⟩, B4⟩
                | true =>
                  rw [if_pos ⟨k3, fun h => by cases h.2⟩] at hR2
                  clear k3
                  have ew : wrap64 (ln + 1) = ln + 1 := by have := HLN.out; unfold wrap64; omega
                  by_cases k8 : 8 < ln + 1
                  · rw [if_pos k8] at hR2
                    have e8 : decide (8 < ln + 1) = true := decide_eq_true k8
                    have hR3 := Option.some.inj hR2
                    simp only [Prod.mk.injEq] at hR3
                    obtain ⟨rfl, rfl⟩ := hR3
                    clear hR2 k8
                    go_wp2_with (first
                      | (go_at_call 59; refine (entry_calls k1 g base A c l sm s a x tt _ (HV.out.below HB.out) (Kd.C_below HC.out HB.out) HP.out HE.out).mono ?_; rintro e w3 ⟨rfl, hb3⟩; have B3 := Aside0.mk (below_step HB.out hb3); have D3 := Aside0.mk hb3; have q6 : w3.cell? ⟨g, 6, none⟩ = some (.map (some bi)) := (blk_cell (blk_below GB.out B3.out) 6).trans rfl; have lk := lookN (MI.out.below B3.out) HTW.out HN2.out; clear hb3 z0)
                      | ((with_reducible refine gate_dst (N := 33) rfl ?_); refine tail_event rfl (.tmp 32) rfl (b := b_) (off := o_) (cn := cn) (m := 0) rfl (by have := HCP.out; simpa using this) ?_; intro A' hA'; have HT3 := Aside0.mk (C_tail2 (Kd.C_below HNR.out D3.out) hA' (by have := HCP.out; simpa using this)); clear hA')
                      | ((with_reducible refine gate_dst (N := 10) rfl ?_); refine var_event (N := 10) (T := 33) (n := 5) (zc := #[.int .u8 0, .int .u16 0, .int .u32 0, .int .u32 0, .string ⟨#[]⟩]) (cs := #[.int .u8 n2.kd, .int .u16 n2.md, .int .u32 n2.ln, .int .u32 n2.sz, .string n2.tg]) rfl rfl rfl (.tmp 39) rfl rfl ?hr (by kernel_rfl) rfl rfl rfl ?hx ?hN ?_; (case hx => intro p_; rfl); (case hN => intro p_; rfl); (case hr => first | (go_simp; done) | (go_simp; rfl)); intro gn hgn w4 hx4 hb4; have Z4 := Aside0.mk hx4; have D4 := Aside0.mk hb4; have B4 := Aside0.mk (below_step B3.out hb4); have y0 : w4.cell? ⟨gn, 0, none⟩ = some (.int .u8 n2.kd) := (blk_cell Z4.out 0).trans rfl; have y4 : w4.cell? ⟨gn, 4, none⟩ = some (.string n2.tg) := (blk_cell Z4.out 4).trans rfl; clear hx4 hb4 hgn q6 lk))
                    go_ret2
                    exact ⟨rfl, B4.out⟩
                  · rw [if_neg k8] at hR2
                    have e8 : decide (8 < ln + 1) = false := decide_eq_false k8
                    obtain ⟨⟨p1, wp⟩, hp, hR2⟩ := Option.bind_eq_some_iff.mp hR2
                    have HS := Aside0.mk hp
                    have HL8 := Aside0.mk k8
                    clear hp k8
                    by_cases k9 : wp = 0
                    · rw [if_pos k9] at hR2
                      subst k9
                      split at hR2
                      case isFalse => cases hR2
                      case isTrue hql =>
                      have HQL := Aside0.mk hql
                      have HRR := Aside0.mk hR2
                      clear hR2 hql
                      go_wp2_with (first
                        | (go_at_call 59; refine (entry_calls k1 g base A c l sm s a x tt _ (HV.out.below HB.out) (Kd.C_below HC.out HB.out) HP.out HE.out).mono ?_; rintro e w3 ⟨rfl, hb3⟩; have B3 := Aside0.mk (below_step HB.out hb3); have D3 := Aside0.mk hb3; have q6 : w3.cell? ⟨g, 6, none⟩ = some (.map (some bi)) := (blk_cell (blk_below GB.out B3.out) 6).trans rfl; have lk := lookN (MI.out.below B3.out) HTW.out HN2.out; clear hb3 z0)
                        | ((with_reducible refine gate_dst (N := 33) rfl ?_); refine tail_event rfl (.tmp 32) rfl (b := b_) (off := o_) (cn := cn) (m := 0) rfl (by have := HCP.out; simpa using this) ?_; intro A' hA'; have HT3 := Aside0.mk (C_tail2 (Kd.C_below HNR.out D3.out) hA' (by have := HCP.out; simpa using this)); clear hA')
                        | ((with_reducible refine gate_dst (N := 10) rfl ?_); refine var_event (N := 10) (T := 33) (n := 5) (zc := #[.int .u8 0, .int .u16 0, .int .u32 0, .int .u32 0, .string ⟨#[]⟩]) (cs := #[.int .u8 n2.kd, .int .u16 n2.md, .int .u32 n2.ln, .int .u32 n2.sz, .string n2.tg]) rfl rfl rfl (.tmp 39) rfl rfl ?hr (by kernel_rfl) rfl rfl rfl ?hx ?hN ?_; (case hx => intro p_; rfl); (case hN => intro p_; rfl); (case hr => first | (go_simp; done) | (go_simp; rfl)); intro gn hgn w4 hx4 hb4; have Z4 := Aside0.mk hx4; have D4 := Aside0.mk hb4; have B4 := Aside0.mk (below_step B3.out hb4); have y0 : w4.cell? ⟨gn, 0, none⟩ = some (.int .u8 n2.kd) := (blk_cell Z4.out 0).trans rfl; have y4 : w4.cell? ⟨gn, 4, none⟩ = some (.string n2.tg) := (blk_cell Z4.out 4).trans rfl; clear hx4 hb4 hgn q6 lk)
                        | (go_at_call 60; refine (path_Split.calls k1 n2.tg p1 0 _ HS.out).mono ?_; rintro e w5 ⟨v5, rfl, ho5, hb5⟩; have R5 := Aside0.mk ho5; have D45 := Aside0.mk (below_step D4.out hb5); have B5 := Aside0.mk (below_step B4.out hb5); obtain ⟨A5, c5, rfl⟩ := Kd.R_slice ho5; clear ho5 hb5 y0 y4)
                        | ((with_reducible refine gate_dst (N := 67) rfl ?_); refine litv_event (cs := #[.slice A5 p1.length c5, .slice A' 0 (cn - 1)]) (t := 49) (n := 2) rfl ?hr ?_; (case hr => first | (go_simp; done) | (go_simp; rfl)); intro gq hgq w6 hx6 hb6; have Q6 := Aside0.mk hx6; have D6 := Aside0.mk hb6; have B6 := Aside0.mk (below_step B5.out hb6); clear hx6 hb6 hgq)
                        | (go_at_call 61; refine (concat_calls gq 49 A5 A' c5 (cn - 1) p1 [] _ Q6.out (Kd.C_below (Kd.R_reads' R5.out).2.2 D6.out) (Kd.C_below (Kd.C_below HT3.out D45.out) D6.out) HQL.out).mono ?_; rintro e w7 ⟨v7, rfl, ho7, hb7⟩; have R7 := Aside0.mk ho7; have B7 := Aside0.mk (below_step B6.out hb7); obtain ⟨A7, c7, hv7⟩ := Kd.R_slice ho7; obtain ⟨n7, hn7⟩ : ∃ n7, n7 = (p1 ++ []).length := ⟨_, rfl⟩; rw [← hn7] at hv7; subst hv7; have N7 := Aside0.mk hn7; clear ho7 hb7 hn7))
                      go_roundg k1
                      case measure => have := HK1.out; omega
                      case rel => exact ⟨A7, c7, p1 ++ [], 1, ln + 1, (by rw [N7.out]), rfl, rfl, HRR, ⟨by have := HK1.out; omega⟩, ⟨by decide⟩, ⟨by have := HLN.out; have := HL8.out; omega⟩, ⟨by rw [← N7.out]; exact (Kd.R_reads' R7.out).2.1⟩, ⟨by have := (Kd.R_reads' R7.out).2.2; first | exact this | (rw [N7.out] at this; exact this)⟩, B7⟩
                    · rw [if_neg k9] at hR2
                      have e9 : (wp != 0) = true := bne_iff_ne.2 k9
                      have hR3 := Option.some.inj hR2
                      simp only [Prod.mk.injEq] at hR3
                      obtain ⟨rfl, rfl⟩ := hR3
                      clear hR2 k9
                      go_wp2_with (first
                        | (go_at_call 59; refine (entry_calls k1 g base A c l sm s a x tt _ (HV.out.below HB.out) (Kd.C_below HC.out HB.out) HP.out HE.out).mono ?_; rintro e w3 ⟨rfl, hb3⟩; have B3 := Aside0.mk (below_step HB.out hb3); have D3 := Aside0.mk hb3; have q6 : w3.cell? ⟨g, 6, none⟩ = some (.map (some bi)) := (blk_cell (blk_below GB.out B3.out) 6).trans rfl; have lk := lookN (MI.out.below B3.out) HTW.out HN2.out; clear hb3 z0)
                        | ((with_reducible refine gate_dst (N := 33) rfl ?_); refine tail_event rfl (.tmp 32) rfl (b := b_) (off := o_) (cn := cn) (m := 0) rfl (by have := HCP.out; simpa using this) ?_; intro A' hA'; have HT3 := Aside0.mk (C_tail2 (Kd.C_below HNR.out D3.out) hA' (by have := HCP.out; simpa using this)); clear hA')
                        | ((with_reducible refine gate_dst (N := 10) rfl ?_); refine var_event (N := 10) (T := 33) (n := 5) (zc := #[.int .u8 0, .int .u16 0, .int .u32 0, .int .u32 0, .string ⟨#[]⟩]) (cs := #[.int .u8 n2.kd, .int .u16 n2.md, .int .u32 n2.ln, .int .u32 n2.sz, .string n2.tg]) rfl rfl rfl (.tmp 39) rfl rfl ?hr (by kernel_rfl) rfl rfl rfl ?hx ?hN ?_; (case hx => intro p_; rfl); (case hN => intro p_; rfl); (case hr => first | (go_simp; done) | (go_simp; rfl)); intro gn hgn w4 hx4 hb4; have Z4 := Aside0.mk hx4; have D4 := Aside0.mk hb4; have B4 := Aside0.mk (below_step B3.out hb4); have y0 : w4.cell? ⟨gn, 0, none⟩ = some (.int .u8 n2.kd) := (blk_cell Z4.out 0).trans rfl; have y4 : w4.cell? ⟨gn, 4, none⟩ = some (.string n2.tg) := (blk_cell Z4.out 4).trans rfl; clear hx4 hb4 hgn q6 lk)
                        | (go_at_call 60; refine (path_Split.calls k1 n2.tg p1 wp _ HS.out).mono ?_; rintro e w5 ⟨v5, rfl, ho5, hb5⟩; have R5 := Aside0.mk ho5; have D45 := Aside0.mk (below_step D4.out hb5); have B5 := Aside0.mk (below_step B4.out hb5); obtain ⟨A5, c5, rfl⟩ := Kd.R_slice ho5; clear ho5 hb5 y0 y4))
                      go_ret2
                      exact ⟨rfl, B5.out⟩
              · have e4 : ((r.length : Int) == 0) = false := beq_eq_false_iff_ne.2 (fun h => hr (List.length_eq_zero_iff.1 (by omega)))
                have e5 : (r.length == 0) = false := beq_eq_false_iff_ne.2 (fun h => hr (List.length_eq_zero_iff.1 h))
                have e6 : (r = []) = False := eq_false hr
                have e7 : r.isEmpty = false := by cases r; · exact absurd rfl hr
                                                  · rfl
                rw [if_pos ⟨k3, fun h => hr h.1⟩] at hR2
                clear k3 hr
                have ew : wrap64 (ln + 1) = ln + 1 := by have := HLN.out; unfold wrap64; omega
                by_cases k8 : 8 < ln + 1
                · rw [if_pos k8] at hR2
                  have e8 : decide (8 < ln + 1) = true := decide_eq_true k8
                  have hR3 := Option.some.inj hR2
                  simp only [Prod.mk.injEq] at hR3
                  obtain ⟨rfl, rfl⟩ := hR3
                  clear hR2 k8
                  go_wp2_with (first
                    | (go_at_call 59; refine (entry_calls k1 g base A c l sm s a x tt _ (HV.out.below HB.out) (Kd.C_below HC.out HB.out) HP.out HE.out).mono ?_; rintro e w3 ⟨rfl, hb3⟩; have B3 := Aside0.mk (below_step HB.out hb3); have D3 := Aside0.mk hb3; have q6 : w3.cell? ⟨g, 6, none⟩ = some (.map (some bi)) := (blk_cell (blk_below GB.out B3.out) 6).trans rfl; have lk := lookN (MI.out.below B3.out) HTW.out HN2.out; clear hb3 z0)
                    | ((with_reducible refine gate_dst (N := 33) rfl ?_); refine tail_event rfl (.tmp 32) rfl (b := b_) (off := o_) (cn := cn) (m := r.length) rfl (by have := HCP.out; simpa using this) ?_; intro A' hA'; have HT3 := Aside0.mk (C_tail2 (Kd.C_below HNR.out D3.out) hA' (by have := HCP.out; simpa using this)); clear hA')
                    | ((with_reducible refine gate_dst (N := 10) rfl ?_); refine var_event (N := 10) (T := 33) (n := 5) (zc := #[.int .u8 0, .int .u16 0, .int .u32 0, .int .u32 0, .string ⟨#[]⟩]) (cs := #[.int .u8 n2.kd, .int .u16 n2.md, .int .u32 n2.ln, .int .u32 n2.sz, .string n2.tg]) rfl rfl rfl (.tmp 39) rfl rfl ?hr (by kernel_rfl) rfl rfl rfl ?hx ?hN ?_; (case hx => intro p_; rfl); (case hN => intro p_; rfl); (case hr => first | (go_simp; done) | (go_simp; rfl)); intro gn hgn w4 hx4 hb4; have Z4 := Aside0.mk hx4; have D4 := Aside0.mk hb4; have B4 := Aside0.mk (below_step B3.out hb4); have y0 : w4.cell? ⟨gn, 0, none⟩ = some (.int .u8 n2.kd) := (blk_cell Z4.out 0).trans rfl; have y4 : w4.cell? ⟨gn, 4, none⟩ = some (.string n2.tg) := (blk_cell Z4.out 4).trans rfl; clear hx4 hb4 hgn q6 lk))
                  go_ret2
                  exact ⟨rfl, B4.out⟩
                · rw [if_neg k8] at hR2
                  have e8 : decide (8 < ln + 1) = false := decide_eq_false k8
                  obtain ⟨⟨p1, wp⟩, hp, hR2⟩ := Option.bind_eq_some_iff.mp hR2
                  have HS := Aside0.mk hp
                  have HL8 := Aside0.mk k8
                  clear hp k8
                  by_cases k9 : wp = 0
                  · rw [if_pos k9] at hR2
                    subst k9
                    split at hR2
                    case isFalse => cases hR2
                    case isTrue hql =>
                    have HQL := Aside0.mk hql
                    have HRR := Aside0.mk hR2
                    clear hR2 hql
                    go_wp2_with (first
                      | (go_at_call 59; refine (entry_calls k1 g base A c l sm s a x tt _ (HV.out.below HB.out) (Kd.C_below HC.out HB.out) HP.out HE.out).mono ?_; rintro e w3 ⟨rfl, hb3⟩; have B3 := Aside0.mk (below_step HB.out hb3); have D3 := Aside0.mk hb3; have q6 : w3.cell? ⟨g, 6, none⟩ = some (.map (some bi)) := (blk_cell (blk_below GB.out B3.out) 6).trans rfl; have lk := lookN (MI.out.below B3.out) HTW.out HN2.out; clear hb3 z0)
                      | ((with_reducible refine gate_dst (N := 33) rfl ?_); refine tail_event rfl (.tmp 32) rfl (b := b_) (off := o_) (cn := cn) (m := r.length) rfl (by have := HCP.out; simpa using this) ?_; intro A' hA'; have HT3 := Aside0.mk (C_tail2 (Kd.C_below HNR.out D3.out) hA' (by have := HCP.out; simpa using this)); clear hA')
                      | ((with_reducible refine gate_dst (N := 10) rfl ?_); refine var_event (N := 10) (T := 33) (n := 5) (zc := #[.int .u8 0, .int .u16 0, .int .u32 0, .int .u32 0, .string ⟨#[]⟩]) (cs := #[.int .u8 n2.kd, .int .u16 n2.md, .int .u32 n2.ln, .int .u32 n2.sz, .string n2.tg]) rfl rfl rfl (.tmp 39) rfl rfl ?hr (by kernel_rfl) rfl rfl rfl ?hx ?hN ?_; (case hx => intro p_; rfl); (case hN => intro p_; rfl); (case hr => first | (go_simp; done) | (go_simp; rfl)); intro gn hgn w4 hx4 hb4; have Z4 := Aside0.mk hx4; have D4 := Aside0.mk hb4; have B4 := Aside0.mk (below_step B3.out hb4); have y0 : w4.cell? ⟨gn, 0, none⟩ = some (.int .u8 n2.kd) := (blk_cell Z4.out 0).trans rfl; have y4 : w4.cell? ⟨gn, 4, none⟩ = some (.string n2.tg) := (blk_cell Z4.out 4).trans rfl; clear hx4 hb4 hgn q6 lk)
                      | (go_at_call 60; refine (path_Split.calls k1 n2.tg p1 0 _ HS.out).mono ?_; rintro e w5 ⟨v5, rfl, ho5, hb5⟩; have R5 := Aside0.mk ho5; have D45 := Aside0.mk (below_step D4.out hb5); have B5 := Aside0.mk (below_step B4.out hb5); obtain ⟨A5, c5, rfl⟩ := Kd.R_slice ho5; clear ho5 hb5 y0 y4)
                      | ((with_reducible refine gate_dst (N := 67) rfl ?_); refine litv_event (cs := #[.slice A5 p1.length c5, .slice A' r.length (cn - 1)]) (t := 49) (n := 2) rfl ?hr ?_; (case hr => first | (go_simp; done) | (go_simp; rfl)); intro gq hgq w6 hx6 hb6; have Q6 := Aside0.mk hx6; have D6 := Aside0.mk hb6; have B6 := Aside0.mk (below_step B5.out hb6); clear hx6 hb6 hgq)
                      | (go_at_call 61; refine (concat_calls gq 49 A5 A' c5 (cn - 1) p1 r _ Q6.out (Kd.C_below (Kd.R_reads' R5.out).2.2 D6.out) (Kd.C_below (Kd.C_below HT3.out D45.out) D6.out) HQL.out).mono ?_; rintro e w7 ⟨v7, rfl, ho7, hb7⟩; have R7 := Aside0.mk ho7; have B7 := Aside0.mk (below_step B6.out hb7); obtain ⟨A7, c7, hv7⟩ := Kd.R_slice ho7; obtain ⟨n7, hn7⟩ : ∃ n7, n7 = (p1 ++ r).length := ⟨_, rfl⟩; rw [← hn7] at hv7; subst hv7; have N7 := Aside0.mk hn7; clear ho7 hb7 hn7))
                    go_roundg k1
                    case measure => have := HK1.out; omega
                    case rel => exact ⟨A7, c7, p1 ++ r, 1, ln + 1, (by rw [N7.out]), rfl, rfl, HRR, ⟨by have := HK1.out; omega⟩, ⟨by decide⟩, ⟨by have := HLN.out; have := HL8.out; omega⟩, ⟨by rw [← N7.out]; exact (Kd.R_reads' R7.out).2.1⟩, ⟨by have := (Kd.R_reads' R7.out).2.2; first | exact this | (rw [N7.out] at this; exact this)⟩, B7⟩
                  · rw [if_neg k9] at hR2
                    have e9 : (wp != 0) = true := bne_iff_ne.2 k9
                    have hR3 := Option.some.inj hR2
                    simp only [Prod.mk.injEq] at hR3
                    obtain ⟨rfl, rfl⟩ := hR3
                    clear hR2 k9
                    go_wp2_with (first
                      | (go_at_call 59; refine (entry_calls k1 g base A c l sm s a x tt _ (HV.out.below HB.out) (Kd.C_below HC.out HB.out) HP.out HE.out).mono ?_; rintro e w3 ⟨rfl, hb3⟩; have B3 := Aside0.mk (below_step HB.out hb3); have D3 := Aside0.mk hb3; have q6 : w3.cell? ⟨g, 6, none⟩ = some (.map (some bi)) := (blk_cell (blk_below GB.out B3.out) 6).trans rfl; have lk := lookN (MI.out.below B3.out) HTW.out HN2.out; clear hb3 z0)
                      | ((with_reducible refine gate_dst (N := 33) rfl ?_); refine tail_event rfl (.tmp 32) rfl (b := b_) (off := o_) (cn := cn) (m := r.length) rfl (by have := HCP.out; simpa using this) ?_; intro A' hA'; have HT3 := Aside0.mk (C_tail2 (Kd.C_below HNR.out D3.out) hA' (by have := HCP.out; simpa using this)); clear hA')
                      | ((with_reducible refine gate_dst (N := 10) rfl ?_); refine var_event (N := 10) (T := 33) (n := 5) (zc := #[.int .u8 0, .int .u16 0, .int .u32 0, .int .u32 0, .string ⟨#[]⟩]) (cs := #[.int .u8 n2.kd, .int .u16 n2.md, .int .u32 n2.ln, .int .u32 n2.sz, .string n2.tg]) rfl rfl rfl (.tmp 39) rfl rfl ?hr (by kernel_rfl) rfl rfl rfl ?hx ?hN ?_; (case hx => intro p_; rfl); (case hN => intro p_; rfl); (case hr => first | (go_simp; done) | (go_simp; rfl)); intro gn hgn w4 hx4 hb4; have Z4 := Aside0.mk hx4; have D4 := Aside0.mk hb4; have B4 := Aside0.mk (below_step B3.out hb4); have y0 : w4.cell? ⟨gn, 0, none⟩ = some (.int .u8 n2.kd) := (blk_cell Z4.out 0).trans rfl; have y4 : w4.cell? ⟨gn, 4, none⟩ = some (.string n2.tg) := (blk_cell Z4.out 4).trans rfl; clear hx4 hb4 hgn q6 lk)
                      | (go_at_call 60; refine (path_Split.calls k1 n2.tg p1 wp _ HS.out).mono ?_; rintro e w5 ⟨v5, rfl, ho5, hb5⟩; have R5 := Aside0.mk ho5; have D45 := Aside0.mk (below_step D4.out hb5); have B5 := Aside0.mk (below_step B4.out hb5); obtain ⟨A5, c5, rfl⟩ := Kd.R_slice ho5; clear ho5 hb5 y0 y4))
                    go_ret2
                    exact ⟨rfl, B5.out⟩
            · have e3 : (n2.kd != 3) = true := bne_iff_ne.2 k3
              rw [if_neg (fun h => k3 h.1)] at hR2
              have HRR := Aside0.mk hR2
              clear hR2 k3
              go_wp2_with (first
                | (go_at_call 59; refine (entry_calls k1 g base A c l sm s a x tt _ (HV.out.below HB.out) (Kd.C_below HC.out HB.out) HP.out HE.out).mono ?_; rintro e w3 ⟨rfl, hb3⟩; have B3 := Aside0.mk (below_step HB.out hb3); have D3 := Aside0.mk hb3; have q6 : w3.cell? ⟨g, 6, none⟩ = some (.map (some bi)) := (blk_cell (blk_below GB.out B3.out) 6).trans rfl; have lk := lookN (MI.out.below B3.out) HTW.out HN2.out; clear hb3 z0)
                | ((with_reducible refine gate_dst (N := 33) rfl ?_); refine tail_event rfl (.tmp 32) rfl (b := b_) (off := o_) (cn := cn) (m := r.length) rfl (by have := HCP.out; simpa using this) ?_; intro A' hA'; have HT3 := Aside0.mk (C_tail2 (Kd.C_below HNR.out D3.out) hA' (by have := HCP.out; simpa using this)); clear hA')
                | ((with_reducible refine gate_dst (N := 10) rfl ?_); refine var_event (N := 10) (T := 33) (n := 5) (zc := #[.int .u8 0, .int .u16 0, .int .u32 0, .int .u32 0, .string ⟨#[]⟩]) (cs := #[.int .u8 n2.kd, .int .u16 n2.md, .int .u32 n2.ln, .int .u32 n2.sz, .string n2.tg]) rfl rfl rfl (.tmp 39) rfl rfl ?hr (by kernel_rfl) rfl rfl rfl ?hx ?hN ?_; (case hx => intro p_; rfl); (case hN => intro p_; rfl); (case hr => first | (go_simp; done) | (go_simp; rfl)); intro gn hgn w4 hx4 hb4; have Z4 := Aside0.mk hx4; have D4 := Aside0.mk hb4; have B4 := Aside0.mk (below_step B3.out hb4); have y0 : w4.cell? ⟨gn, 0, none⟩ = some (.int .u8 n2.kd) := (blk_cell Z4.out 0).trans rfl; have y4 : w4.cell? ⟨gn, 4, none⟩ = some (.string n2.tg) := (blk_cell Z4.out 4).trans rfl; clear hx4 hb4 hgn q6 lk))
              go_roundg k1
              case measure => have := HK1.out; omega
              case rel => exact ⟨A', cn - 1, r, tt, ln, rfl, rfl, rfl, HRR, ⟨by have := HK1.out; omega⟩, HTW, HLN, ⟨by first | (simp; done) | (have := HCP.out; simp at this; omega)⟩, ⟨Kd.C_below HT3.out D4.out⟩, B4⟩
        · rw [if_neg k0] at hR
          have e0 : (n1.kd != 1) = true := bne_iff_ne.2 k0
          have hR3 := Option.some.inj hR
          simp only [Prod.mk.injEq] at hR3
          obtain ⟨rfl, rfl⟩ := hR3
          clear hR k0
          go_wp2
          go_ret2
          exact ⟨rfl, HB.out⟩
end Go.Proofs.YthbljhmjppjcjaaGreatDoor.Z
end

section
/- dirs: Check, Get, Walk, List, Next (printed by gendirs.py). -/
namespace Go.Proofs.YthbljhmjppjcjaaGreatDoor.Z
open Go.RowKit Go.Proofs.YthbljhmjppjcjaaGreatDoorW.PrintWords Go.Proofs.YthbljhmjppjcjaaGreatDoorW.PrintLast Go.Proofs.YthbljhmjppjcjaaGreatDoorW.PrintMore
set_option linter.unusedVariables false
set_option linter.unusedSimpArgs false
attribute [local go_sem ↓] Go.wp_at_zero Go.wp_at_succ
set_option maxRecDepth 100000 in
theorem vopen_calls (A : Option Addr) (c : Nat) (l : List VIT) (w : World) : Calls Tryz.prog 32 #[.slice A l.length c] w fun e w' => ∃ g, e = .returned (.pointer (some ⟨g, 0, none⟩)) ∧ w.heap.size ≤ g ∧ w'.heap[g]? = some (volO (.slice A l.length c) (.slice none 0 0) (.map none) (.map none) 0 0 0 false) ∧ Below w.heap.size w w' := by
  go_enter Tryz.func32, Tryz.ntmps32
  go_wp2_with ((with_reducible refine gate_dst (N := 5) rfl ?_); refine box_event ?hg (N := 5) ?hd (cs := #[.slice A l.length c, .int .u32 0, .int .i32 0, .int .u32 0, .bool false, .slice none 0 0, .map none, .map none]) (t := 141) ?hr ?_; (case hd => rfl); (case hg => rfl); (case hr => first | (go_simp; done) | (go_simp; rfl)); intro g hg w1 hx hb; have X1 := Aside0.mk hx; have B1 := Aside0.mk hb; have GG := Aside0.mk (show w.heap.size ≤ g by rw [hg]; exact Nat.le_refl _); clear hx hb hg)
  go_ret
  exact ⟨g, rfl, GG.out, X1.out, B1.out⟩
def dirs_Check.f (k : Nat) (l0 : List VIT) : Option (Int) := (lookF k l0).bind fun o => match o with | none => some 9 | some s => some 0
theorem dirs_Check.mono : ∀ a0 k, LeO (dirs_Check.f k a0) (dirs_Check.f (k + 1) a0) := fun a0 k => by
  unfold dirs_Check.f
  exact LeO.bind (lookF.mono _ _) (fun _ => LeO.refl _)
set_option maxRecDepth 100000 in
set_option maxHeartbeats 3200000 in
theorem dirs_Check.calls (k : Nat) (A0 : Option Addr) (c0 : Nat) (l0 : List VIT) (r : Int) (w : World) (hr0 : Kd.C k71 w A0 l0.length l0) (hc0 : l0.length ≤ c0) (h : dirs_Check.f k l0 = some r) :
    Calls Tryz.prog 11 #[.slice A0 l0.length c0] w fun e w' => e = .returned (.int .i64 r) ∧ Below w.heap.size w w' := by
  unfold dirs_Check.f at h
  have hnot : ∀ (x : Bool) (w : World), (Op.unary .not (.bool x)).run Tryz.prog w = .ok (.bool (!x)) w := fun _ _ => rfl
  obtain ⟨o, ho, h⟩ := Option.bind_eq_some_iff.mp h
  have HR := Aside0.mk hr0
  have HC := Aside0.mk hc0
  have HO := Aside0.mk ho
  clear hr0 hc0 ho
  cases o with
  | none =>
    obtain rfl := Option.some.inj h
    clear h
    go_enter Tryz.func11, Tryz.ntmps11
    go_wp2_with (first
      | (go_at_call 32; refine (vopen_calls A0 c0 l0 _).mono ?_; rintro e w1 ⟨g, rfl, hg, hb1, hB1⟩; have GG := Aside0.mk hg; have O1 := Aside0.mk hb1; have B1 := Aside0.mk hB1; have Z1 := Aside0.mk (show w.heap.size ≤ w1.heap.size from B1.out.size); clear hg hb1 hB1)
      | (go_at_call 33; refine (right_calls k g A0 c0 l0 0 none _ O1.out (Kd.C_foot_came (Kd.heap_iso _ (Kd.heap_pair Kd.heap_string Kd.heap_string)) HR.out B1.out GG.out) HC.out HO.out).mono ?_; rintro e w2 ⟨rfl, hf2, hv2⟩; have B2 := Aside0.mk (B1.out.trans (hf2.2 w.heap.size GG.out Z1.out)); clear hf2 hv2))
    go_ret
    exact ⟨rfl, B2.out⟩
  | some s =>
    obtain rfl := Option.some.inj h
    clear h
    go_enter Tryz.func11, Tryz.ntmps11
    go_wp2_with (first
      | (go_at_call 32; refine (vopen_calls A0 c0 l0 _).mono ?_; rintro e w1 ⟨g, rfl, hg, hb1, hB1⟩; have GG := Aside0.mk hg; have O1 := Aside0.mk hb1; have B1 := Aside0.mk hB1; have Z1 := Aside0.mk (show w.heap.size ≤ w1.heap.size from B1.out.size); clear hg hb1 hB1)
      | (go_at_call 33; refine (right_calls k g A0 c0 l0 0 (some s) _ O1.out (Kd.C_foot_came (Kd.heap_iso _ (Kd.heap_pair Kd.heap_string Kd.heap_string)) HR.out B1.out GG.out) HC.out HO.out).mono ?_; rintro e w2 ⟨rfl, hf2, hv2⟩; have B2 := Aside0.mk (B1.out.trans (hf2.2 w.heap.size GG.out Z1.out)); have V2 := Aside0.mk (hv2 s rfl); have R2 := Aside0.mk (Kd.C_below HR.out B2.out); clear hf2 hv2))
    go_ret
    exact ⟨rfl, B2.out⟩
def dirs_Walk.f (k : Nat) (l0 : List VIT) (names : List ByteArray) (follow : Bool) : Option (Int × Int) := (lookF k l0).bind fun o => match o with | none => some (0, 9) | some s => walkL l0 s follow k names 1 0
theorem dirs_Walk.mono : ∀ a0 a1 a2 k, LeO (dirs_Walk.f k a0 a1 a2) (dirs_Walk.f (k + 1) a0 a1 a2) := fun a0 a1 a2 k => by
  unfold dirs_Walk.f
  refine LeO.bind (lookF.mono _ _) (fun o => ?_)
  cases o with
  | none => exact LeO.refl _
  | some s => exact walkL.mono _ _ _ _ _ _ _
set_option maxRecDepth 100000 in
set_option maxHeartbeats 3200000 in
theorem dirs_Walk.calls (k : Nat) (A0 : Option Addr) (c0 : Nat) (l0 : List VIT) (A1 : Option Addr) (c1 : Nat) (l1 : List ByteArray) (a2 : Bool) (r1 r2 : Int) (w : World) (hr0 : Kd.C k71 w A0 l0.length l0) (hc0 : l0.length ≤ c0) (hr1 : Kd.C Kd.string w A1 l1.length l1) (hc1 : l1.length ≤ c1) (h : dirs_Walk.f k l0 l1 a2 = some (r1, r2)) :
    Calls Tryz.prog 12 #[.slice A0 l0.length c0, .slice A1 l1.length c1, .bool a2] w fun e w' => e = .returned (.tuple #[.int .u32 r1, .int .i64 r2]) ∧ Below w.heap.size w w' := by
  unfold dirs_Walk.f at h
  have HR1 := Aside0.mk hr1
  have HC1 := Aside0.mk hc1
  clear hr1 hc1
  have hnot : ∀ (x : Bool) (w : World), (Op.unary .not (.bool x)).run Tryz.prog w = .ok (.bool (!x)) w := fun _ _ => rfl
  obtain ⟨o, ho, h⟩ := Option.bind_eq_some_iff.mp h
  have HR := Aside0.mk hr0
  have HC := Aside0.mk hc0
  have HO := Aside0.mk ho
  clear hr0 hc0 ho
  cases o with
  | none =>
    have h := Option.some.inj h
    simp only [Prod.mk.injEq] at h
    obtain ⟨rfl, rfl⟩ := h
    go_enter Tryz.func12, Tryz.ntmps12
    go_wp2_with (first
      | (go_at_call 32; refine (vopen_calls A0 c0 l0 _).mono ?_; rintro e w1 ⟨g, rfl, hg, hb1, hB1⟩; have GG := Aside0.mk hg; have O1 := Aside0.mk hb1; have B1 := Aside0.mk hB1; have Z1 := Aside0.mk (show w.heap.size ≤ w1.heap.size from B1.out.size); clear hg hb1 hB1)
      | (go_at_call 33; refine (right_calls k g A0 c0 l0 0 none _ O1.out (Kd.C_foot_came (Kd.heap_iso _ (Kd.heap_pair Kd.heap_string Kd.heap_string)) HR.out B1.out GG.out) HC.out HO.out).mono ?_; rintro e w2 ⟨rfl, hf2, hv2⟩; have B2 := Aside0.mk (B1.out.trans (hf2.2 w.heap.size GG.out Z1.out)); clear hf2 hv2))
    go_ret2
    exact ⟨rfl, B2.out⟩
  | some s =>
    have HH := Aside0.mk h
    clear h
    go_enter Tryz.func12, Tryz.ntmps12
    go_wp2_with (first
      | (go_at_call 32; refine (vopen_calls A0 c0 l0 _).mono ?_; rintro e w1 ⟨g, rfl, hg, hb1, hB1⟩; have GG := Aside0.mk hg; have O1 := Aside0.mk hb1; have B1 := Aside0.mk hB1; have Z1 := Aside0.mk (show w.heap.size ≤ w1.heap.size from B1.out.size); clear hg hb1 hB1)
      | (go_at_call 33; refine (right_calls k g A0 c0 l0 0 (some s) _ O1.out (Kd.C_foot_came (Kd.heap_iso _ (Kd.heap_pair Kd.heap_string Kd.heap_string)) HR.out B1.out GG.out) HC.out HO.out).mono ?_; rintro e w2 ⟨rfl, hf2, hv2⟩; have B2 := Aside0.mk (B1.out.trans (hf2.2 w.heap.size GG.out Z1.out)); have V2 := Aside0.mk (hv2 s rfl); have R2 := Aside0.mk (Kd.C_below HR.out B2.out); clear hf2 hv2)
      | (go_at_call 34; refine (walk_calls k g w1.heap.size A0 c0 l0 0 s A1 c1 l1 a2 r1 r2 _ V2.out R2.out HC.out (Kd.C_below HR1.out B2.out) HC1.out HH.out).mono ?_; rintro e w3 ⟨rfl, hb3⟩; have B3 := Aside0.mk (below_step B2.out hb3); clear hb3))
    go_ret2
    exact ⟨rfl, B3.out⟩
end Go.Proofs.YthbljhmjppjcjaaGreatDoor.Z
end

section
/- Bytes as a text; names. -/
namespace Go.Proofs.YthbljhmjppjcjaaGreatDoor.PM
/-- Bytes as a text. -/
def ba (l : List UInt8) : ByteArray := ⟨l.toArray⟩
theorem ba_data (l : List UInt8) : (ba l).data.toList = l := by simp [ba]
theorem ba_toList (l : List UInt8) : (ba l).toList = l := by rw [ByteArray.toList_eq]; exact ba_data l
theorem ba_size (l : List UInt8) : (ba l).size = l.length := by simp [ba, ByteArray.size]
theorem data_ba (s : ByteArray) : ba s.data.toList = s := by cases s; simp [ba]
theorem ba_app (a b : List UInt8) : ba a ++ ba b = ba (a ++ b) := by
  have h : (ba a ++ ba b).data.toList = (ba (a ++ b)).data.toList := by rw [Go.Joins.data_append, ba_data, ba_data, ba_data]
  rw [← data_ba (ba a ++ ba b), h, data_ba]
/-- A name. -/
def nameL (l : List UInt8) : Bool := decide (l ≠ [] ∧ l.length ≤ 24 ∧ 47 ∉ l ∧ 0 ∉ l ∧ l ≠ [46] ∧ l ≠ [46, 46])
theorem nameL_iff {l : List UInt8} : nameL l = true ↔ (l ≠ [] ∧ l.length ≤ 24 ∧ 47 ∉ l ∧ 0 ∉ l ∧ l ≠ [46] ∧ l ≠ [46, 46]) := by simp [nameL]

end Go.Proofs.YthbljhmjppjcjaaGreatDoor.PM
end

section
/- Paths and names, as lists of bytes: the plain definitions and their laws (no program in sight). -/
namespace Go.Proofs.YthbljhmjppjcjaaGreatDoor.PM
/-- What stands between slashes. -/
def splitL : List UInt8 → List (List UInt8)
  | [] => [[]]
  | c :: cs => if c = 47 then [] :: splitL cs else match splitL cs with
    | h :: t => (c :: h) :: t
    | [] => [[c]]
theorem splitL_ne (l : List UInt8) : splitL l ≠ [] := by
  cases l with
  | nil => simp [splitL]
  | cons c cs =>
    unfold splitL
    split
    · simp
    · split <;> simp
/-- What has been read ahead is put before the first piece. -/
def pre (a : List UInt8) : List (List UInt8) → List (List UInt8)
  | h :: t => (a ++ h) :: t
  | [] => [a]
theorem splitL_cons_ne {c : UInt8} {cs : List UInt8} (h : c ≠ 47) : splitL (c :: cs) = pre [c] (splitL cs) := by
  conv => lhs; unfold splitL
  rw [if_neg h]
  cases splitL cs <;> rfl
theorem splitL_cons_eq (cs : List UInt8) : splitL (47 :: cs) = [] :: splitL cs := by
  conv => lhs; unfold splitL
  rw [if_pos rfl]
theorem pre_pre (a b : List UInt8) (l : List (List UInt8)) : pre a (pre b l) = pre (a ++ b) l := by cases l <;> simp [pre]
theorem pre_nil {l : List (List UInt8)} (h : l ≠ []) : pre [] l = l := by cases l <;> simp_all [pre]
theorem splitL_pre (a l : List UInt8) (h : 47 ∉ a) : splitL (a ++ l) = pre a (splitL l) := by
  induction a with
  | nil => rw [List.nil_append, pre_nil (splitL_ne l)]
  | cons c a ih =>
    rw [List.cons_append, splitL_cons_ne (fun e => h (by simp [e])), ih (fun e => h (by simp [e])), pre_pre]; rfl
theorem splitL_none (l : List UInt8) (h : 47 ∉ l) : splitL l = [l] := by
  have := splitL_pre l [] h
  rw [List.append_nil] at this
  rw [this]; simp [splitL, pre]
theorem splitL_at (a l : List UInt8) (h : 47 ∉ a) : splitL (a ++ 47 :: l) = a :: splitL l := by
  rw [splitL_pre a _ h, splitL_cons_eq]; simp [pre]
/-- Names put together: a slash ahead of each. -/
def joinL (ns : List (List UInt8)) : List UInt8 := ns.flatMap (fun n => 47 :: n)
theorem joinL_splitL (l : List UInt8) : joinL (splitL l) = 47 :: l := by
  induction l with
  | nil => simp [joinL, splitL]
  | cons c cs ih =>
    by_cases hc : c = 47
    · subst hc; rw [splitL_cons_eq]; simp only [joinL, List.flatMap_cons] at *; rw [ih]; rfl
    · rw [splitL_cons_ne hc]
      have hn := splitL_ne cs
      cases hs : splitL cs with
      | nil => exact absurd hs hn
      | cons a t =>
        rw [hs] at ih
        simp only [joinL, List.flatMap_cons, pre] at *
        simp only [List.cons_append, List.cons.injEq, true_and] at ih
        simp [ih]
theorem joinL_length (ns : List (List UInt8)) : (joinL ns).length = ns.length + (ns.map List.length).sum := by
  induction ns with
  | nil => rfl
  | cons n ns ih => simp only [joinL, List.flatMap_cons, List.length_append, List.length_cons, List.map_cons, List.sum_cons] at *; omega
/-- A path's names, why there are none. -/
def pathSpec (p : List UInt8) : List (List UInt8) × Int :=
  if 256 < p.length then ([], 2) else match p with
    | [] => ([], 10)
    | c :: rest => if c = 47 then (if rest = [] then ([], 0) else if (splitL rest).all nameL then (splitL rest, 0) else ([], 10)) else ([], 10)
theorem path_cases (p : List UInt8) : (pathSpec p).2 ≠ 0 ∧ (pathSpec p).1 = [] ∨ (p = [47] ∧ pathSpec p = ([], 0)) ∨ ∃ rest, p = 47 :: rest ∧ rest ≠ [] ∧ p.length ≤ 256 ∧ (splitL rest).all nameL = true ∧ pathSpec p = (splitL rest, 0) := by
  unfold pathSpec
  split
  · left; simp
  · rename_i hlen
    cases p with
    | nil => left; simp
    | cons c rest =>
      simp only
      split
      · rename_i hc; subst hc
        split
        · rename_i hr; subst hr; right; left; simp
        · rename_i hr
          split
          · rename_i ha; right; right; exact ⟨rest, rfl, hr, by omega, ha, rfl⟩
          · left; simp
      · left; simp
end Go.Proofs.YthbljhmjppjcjaaGreatDoor.PM
end

section
/- How a round function comes to its answer: the steps. -/
namespace Go.Proofs.YthbljhmjppjcjaaGreatDoor.Z
open Go.RowKit Go.Proofs.YthbljhmjppjcjaaGreatDoorW.PrintWords Go.Proofs.YthbljhmjppjcjaaGreatDoorW.PrintLast
set_option linter.unusedVariables false
theorem Ev.val {α : Type} {g : Nat → Option α} {a b : α} (h : Ev g a) (e : a = b) : Ev g b := e ▸ h
theorem Ev.const {α : Type} {x : Option α} {r : α} (h : x = some r) : Ev (fun _ => x) r := ⟨0, fun _ _ => h⟩
theorem Ev.ifp {α : Type} {c : Prop} [Decidable c] {f g : Nat → Option α} {r : α} (hc : c) (h : Ev f r) : Ev (fun k => if c then f k else g k) r := Ev.congr (fun k => if_pos hc) h
theorem Ev.ifn {α : Type} {c : Prop} [Decidable c] {f g : Nat → Option α} {r : α} (hc : ¬ c) (h : Ev g r) : Ev (fun k => if c then f k else g k) r := Ev.congr (fun k => if_neg hc) h
theorem Ev.ite {α : Type} {c : Prop} [Decidable c] {f g : Nat → Option α} {r : α} (h : c → Ev f r) (h2 : ¬ c → Ev g r) : Ev (fun k => if c then f k else g k) r := by
  by_cases hc : c
  · exact Ev.ifp hc (h hc)
  · exact Ev.ifn hc (h2 hc)
theorem Ev.bindc {α β : Type} {x : Option α} {f : Nat → α → Option β} {a : α} {r : β} (h : x = some a) (k : Ev (fun n => f n a) r) : Ev (fun n => x.bind (f n)) r := Ev.bind (Ev.const h) k
theorem w64 {i : Int} (h0 : -9223372036854775808 ≤ i) (h1 : i ≤ 9223372036854775807) : wrap64 i = i := by unfold wrap64; omega
theorem bytes_inj {a b : ByteArray} (h : a.toList = b.toList) : a = b := by
  rw [ByteArray.toList_eq, ByteArray.toList_eq] at h
  cases a; cases b; simp_all
end Go.Proofs.YthbljhmjppjcjaaGreatDoor.Z
end

section
/- Bytes of texts; the reference's Name. -/
namespace Go.Proofs.YthbljhmjppjcjaaGreatDoor.Z
open Go.RowKit Go.Proofs.YthbljhmjppjcjaaGreatDoorW.PrintWords Go.Proofs.YthbljhmjppjcjaaGreatDoorW.PrintLast Go.Proofs.YthbljhmjppjcjaaGreatDoor.PM
set_option linter.unusedVariables false
theorem index_mem (l : List UInt8) (c : UInt8) : 0 ≤ Lib.indexByte l c ↔ c ∈ l := by
  induction l with
  | nil => simp [Lib.indexByte]
  | cons b l ih =>
    unfold Lib.indexByte
    by_cases hb : b = c
    · subst hb; simp
    · have hb2 : (b == c) = false := by simpa using hb
      rw [hb2]
      by_cases h1 : Lib.indexByte l c = -1
      · have hn : c ∉ l := fun hm => by have := ih.2 hm; omega
        simp [h1, hn, Ne.symm hb]
      · have := Lib.indexByte_ge l c
        have hm : c ∈ l := ih.1 (by omega)
        have h2 : (Lib.indexByte l c == -1) = false := by simpa using h1
        simp [h2, hm]; omega
theorem bt_get (s : ByteArray) (i : Nat) (h : i < s.data.toList.length) : bt s (i : Int) = ((s.data.toList[i]).toNat : Int) := by
  have hs : i < s.size := by rw [Array.length_toList] at h; exact h
  unfold bt
  rw [dif_pos (by simpa using hs)]
  simp only [Int.toNat_natCast, Array.getElem_toList]
  rfl
theorem byte_eq (x : UInt8) (n : Nat) (hn : n < 256) : ((x.toNat : Int) = n) ↔ x = n.toUInt8 := by
  constructor
  · intro h
    have : x.toNat = n := by omega
    rw [← UInt8.toNat_inj]
    simp [this]; omega
  · intro h; subst h; simp; omega
theorem size_len (a : ByteArray) : a.size = a.data.toList.length := by rw [Array.length_toList]; rfl

end Go.Proofs.YthbljhmjppjcjaaGreatDoor.Z
end

section
/- path.Name, as printed. -/
namespace Go.Proofs.YthbljhmjppjcjaaGreatDoor.Z
open Go.RowKit Go.Proofs.YthbljhmjppjcjaaGreatDoorW.PrintWords Go.Proofs.YthbljhmjppjcjaaGreatDoorW.PrintLast Go.Proofs.YthbljhmjppjcjaaGreatDoor.PM
set_option linter.unusedSimpArgs false
theorem contains_f (a : ByteArray) (c : UInt8) : strings_Contains.f a ⟨#[c]⟩ = some (decide (c ∈ a.data.toList)) := by
  unfold strings_Contains.f
  rw [dif_pos (by rfl)]
  have hi := index_mem a.data.toList c
  exact congrArg some (by rw [Bool.eq_iff_iff]; simpa using hi)
theorem name_f (a : ByteArray) : path_Name.f a = some (nameL a.data.toList) := by
  unfold path_Name.f nameL
  rw [ByteArray.toList_eq, contains_f, contains_f]
  have hz := size_len a
  by_cases h1 : a.data.toList = []
  · simp [h1]
  · rw [if_neg h1]
    by_cases h2 : (a.size : Int) ≤ 24
    · rw [if_pos h2]
      have h2' : a.data.toList.length ≤ 24 := by omega
      by_cases h3 : 47 ∈ a.data.toList <;> by_cases h4 : 0 ∈ a.data.toList <;> simp [h1, h3, h4]
      by_cases h5 : a.data.toList = [46]
      · have h2d : decide (a.size ≤ 24) = true := by simp; omega
        by_cases h6 : a.data.toList = [46, 46]
        · simp [h6]
        · simp [h5, h6, h2d]
      · have h2d : decide (a.size ≤ 24) = true := by simp; omega
        by_cases h6 : a.data.toList = [46, 46]
        · simp [h6]
        · simp [h5, h6, h2d]
    · rw [if_neg h2, show decide (a.data.toList ≠ [] ∧ a.data.toList.length ≤ 24 ∧ 47 ∉ a.data.toList ∧ 0 ∉ a.data.toList ∧ a.data.toList ≠ [46] ∧ a.data.toList ≠ [46, 46]) = false by simp; omega]
end Go.Proofs.YthbljhmjppjcjaaGreatDoor.Z
end

section
/- What the functions of package path, and the reference's, come to: the plain definitions. -/
namespace Go.Proofs.YthbljhmjppjcjaaGreatDoor.Z
open Go.RowKit Go.Proofs.YthbljhmjppjcjaaGreatDoorW.PrintWords Go.Proofs.YthbljhmjppjcjaaGreatDoorW.PrintLast Go.Proofs.YthbljhmjppjcjaaGreatDoor.PM
set_option linter.unusedVariables false
/-! ### Split -/
def baP (x : List (List UInt8) × Int) : List ByteArray × Int := (x.1.map ba, x.2)
theorem cut_f (s : ByteArray) (hs : s.size ≤ 9223372036854775806) :
    (47 ∉ s.data.toList ∧ strings_Cut.f s ⟨#[47]⟩ = some (s, ⟨#[]⟩, false)) ∨
    ∃ a b, s.data.toList = a ++ 47 :: b ∧ 47 ∉ a ∧ strings_Cut.f s ⟨#[47]⟩ = some (ba a, ba b, true) := by
  have hidx : stringslite_Index.f s ⟨#[47]⟩ = some (Lib.indexByte s.data.toList 47) := by unfold stringslite_Index.f; rw [dif_pos (by rfl)]; rfl
  have hz := size_len s
  by_cases h : 0 ≤ Lib.indexByte s.data.toList 47
  · right
    obtain ⟨o, ho⟩ : ∃ o : Nat, Lib.indexByte s.data.toList 47 = o := ⟨_, (Int.toNat_of_nonneg h).symm⟩
    obtain ⟨h1, h2⟩ := Lib.indexByte_some ho
    obtain ⟨hlt, hget⟩ := List.getElem?_eq_some_iff.1 h1
    refine ⟨s.data.toList.take o, s.data.toList.drop (o + 1), ?_, ?_, ?_⟩
    · rw [← hget, ← List.drop_eq_getElem_cons hlt, List.take_append_drop]
    · intro hm
      obtain ⟨j, hj, hje⟩ := List.getElem_of_mem hm
      rw [List.length_take] at hj
      exact h2 j (by omega) (by rw [List.getElem_take] at hje; rw [← hje]; exact List.getElem?_eq_getElem (by omega))
    · unfold strings_Cut.f stringslite_Cut.f
      rw [hidx, ho]
      have s1 : ((⟨#[47]⟩ : ByteArray).size : Int) = 1 := rfl
      simp only [Option.bind_some, s1]
      rw [if_pos (by omega), if_pos (by omega), if_pos (by omega), w64 (by omega) (by omega), if_pos (by omega), if_pos (by omega)]
      simp only [Option.bind_some, Option.some.injEq, Prod.mk.injEq, and_true]
      constructor
      · rw [Lib.extract_eq]; simp [ba]
      · rw [Lib.extract_eq]
        have : ((o : Int) + 1).toNat = o + 1 := by omega
        rw [this, hz]
        unfold ba
        rw [List.take_of_length_le (by simp)]
  · left
    refine ⟨fun hm => h ((index_mem _ _).2 hm), ?_⟩
    unfold strings_Cut.f stringslite_Cut.f
    rw [hidx]
    simp only [Option.bind_some]
    rw [if_neg (by omega)]
    rfl
theorem split_l0 : ∀ (m : Nat) (rest : ByteArray) (acc : List ByteArray), rest.data.toList.length ≤ m → acc.length + rest.data.toList.length ≤ 1000 →
    Ev (fun k => path_Split.l0 k rest acc) (if (splitL rest.data.toList).all nameL then (acc ++ (splitL rest.data.toList).map ba, 0) else ([], 10))
  | m, rest, acc, hm, hb => by
    refine Ev.step (fun k => by rw [path_Split.l0]) ?_
    have hz := size_len rest
    rcases cut_f rest (by omega) with ⟨hno, hc⟩ | ⟨a, b, hab, hno, hc⟩
    · refine Ev.bindc hc (Ev.bindc (name_f _) ?_)
      simp only
      rw [splitL_none _ hno]
      by_cases hn : nameL rest.data.toList = true
      · refine Ev.ifp hn (Ev.ifp (by omega) (Ev.bindc rfl (Ev.ifn (by simp) (Ev.const ?_))))
        simp [hn, data_ba]
      · refine Ev.ifn hn (Ev.const ?_)
        simp [hn]
    · refine Ev.bindc hc (Ev.bindc (name_f _) ?_)
      simp only [ba_data]
      rw [hab, splitL_at _ _ hno]
      have hl : rest.data.toList.length = a.length + b.length + 1 := by rw [hab]; simp; omega
      by_cases hn : nameL a = true
      · refine Ev.ifp hn (Ev.ifp (by omega) (Ev.bindc rfl (Ev.ifp trivial ?_)))
        cases m with
        | zero => omega
        | succ m =>
          have ih := split_l0 m (ba b) (acc ++ [ba a]) (by rw [ba_data]; omega) (by rw [ba_data]; simp; omega)
          rw [ba_data] at ih
          refine Ev.val ih ?_
          simp [hn]
      · refine Ev.ifn hn (Ev.const ?_)
        simp [hn]
theorem cutPrefix_f (s : ByteArray) : strings_CutPrefix.f s ⟨#[47]⟩ = some (match s.data.toList with | 47 :: r => (ba r, true) | _ => (s, false)) := by
  have hz := size_len s
  have s1 : ((⟨#[47]⟩ : ByteArray).size : Int) = 1 := rfl
  have s2 : (⟨#[47]⟩ : ByteArray).toList = [47] := by rw [ByteArray.toList_eq]
  unfold strings_CutPrefix.f stringslite_CutPrefix.f stringslite_HasPrefix.f
  simp only [s1, s2]
  cases hd : s.data.toList with
  | nil =>
    have h0 : s.size = 0 := by rw [hz, hd]; rfl
    rw [if_neg (by omega)]; rfl
  | cons c r =>
    rw [hd] at hz
    simp only [List.length_cons] at hz
    rw [if_pos (by omega), if_pos (by omega), if_pos (by omega)]
    have e1 : (s.extract 0 (1 : Int).toNat).toList = [c] := by rw [Lib.extract_toList, hd]; rfl
    rw [e1]
    by_cases hc : c = 47
    · subst hc
      simp only [Option.bind_some, beq_self_eq_true, if_true]
      rw [if_pos (by omega), if_pos (by omega)]
      simp only [Option.bind_some, Option.some.injEq, Prod.mk.injEq, and_true]
      rw [Lib.extract_eq, hd]
      simp [ba, hz]
    · have hb : ([c] == ([47] : List UInt8)) = false := by simpa using hc
      rw [hb]
      simp only [Option.bind_some]
      rw [if_neg (by simp)]
      split
      · rename_i heq; injection heq with h1 _; exact absurd h1 hc
      · rfl
theorem split_f (p : ByteArray) : Ev (fun k => path_Split.f k p) (baP (pathSpec p.data.toList)) := by
  have hz := size_len p
  unfold path_Split.f pathSpec
  by_cases h256 : (p.size : Int) > 256
  · refine Ev.ifp h256 (Ev.const ?_)
    rw [if_pos (by omega)]; rfl
  · refine Ev.ifn h256 (Ev.bindc (cutPrefix_f p) ?_)
    rw [if_neg (by omega)]
    cases hd : p.data.toList with
    | nil => exact Ev.ifn (by simp) (Ev.const rfl)
    | cons c r =>
      by_cases hc : c = 47
      · subst hc
        refine Ev.ifp rfl ?_
        simp only
        by_cases hr : r = []
        · subst hr
          refine Ev.ifp (by rw [ba_toList]) (Ev.const rfl)
        · refine Ev.ifn (by rw [ba_toList]; exact hr) ?_
          rw [hd] at hz
          simp only [List.length_cons] at hz
          refine Ev.val (split_l0 _ (ba r) [] (Nat.le_refl _) (by rw [ba_data]; simp; omega)) ?_
          rw [ba_data, if_pos trivial, if_neg hr]
          split <;> simp [baP]
      · have : (match c :: r with | 47 :: r => (ba r, true) | _ => (p, false)) = (p, false) := by
          split
          · rename_i heq; injection heq with h1 _; exact absurd h1 hc
          · rfl
        rw [this]
        refine Ev.ifn (by simp) (Ev.const ?_)
        simp only
        rw [if_neg hc]; rfl
/-! ### the reference's Split -/
/-! ### Join -/
/-! ### Under, Same -/
/-! ### Last -/
end Go.Proofs.YthbljhmjppjcjaaGreatDoor.Z
end

section
/- Numbers as bytes; inodes and keys as bytes: over lists (no program in sight). -/
namespace Go.Proofs.YthbljhmjppjcjaaGreatDoor.PM
open Go
/-- The w bytes of a number, the greatest first. -/
def be : Nat → Nat → List UInt8
  | 0, _ => []
  | w + 1, n => be w (n / 256) ++ [UInt8.ofNat (n % 256)]
theorem be_len : ∀ w n, (be w n).length = w
  | 0, _ => rfl
  | w + 1, n => by rw [be, List.length_append, be_len w]; rfl
theorem be_cons : ∀ w n, be (w + 1) n = UInt8.ofNat (n / 256 ^ w % 256) :: be w n
  | 0, n => by simp [be]
  | w + 1, n => by
    have h := be_cons w (n / 256)
    rw [be, h, be, List.cons_append, Nat.div_div_eq_div_mul, ← Nat.pow_succ']
def num (l : List UInt8) : Nat := l.foldl (fun a b => a * 256 + b.toNat) 0
theorem num_snoc (l : List UInt8) (b : UInt8) : num (l ++ [b]) = num l * 256 + b.toNat := by simp [num]
theorem ofNat_toNat (n : Nat) : (UInt8.ofNat (n % 256)).toNat = n % 256 := by simp
theorem num_be : ∀ w n, n < 256 ^ w → num (be w n) = n
  | 0, n, h => by
    have : n = 0 := by simpa using h
    subst this
    rfl
  | w + 1, n, h => by
    rw [be, num_snoc, num_be w (n / 256) (by rw [Nat.pow_succ] at h; omega), ofNat_toNat]
    omega
theorem num_lt : ∀ (k : Nat) (l : List UInt8), l.length = k → num l < 256 ^ k
  | 0, l, h => by rw [List.length_eq_zero_iff.1 h]; exact Nat.one_pos
  | k + 1, l, h => by
    obtain rfl | ⟨l', b, rfl⟩ := List.eq_nil_or_concat l
    · cases h
    · rw [List.concat_eq_append] at h ⊢
      rw [num_snoc, Nat.pow_succ]
      have h1 := num_lt k l' (by simpa using h)
      have h2 := b.toNat_lt
      omega
theorem be_num : ∀ (k : Nat) (l : List UInt8), l.length = k → be k (num l) = l
  | 0, l, h => by rw [List.length_eq_zero_iff.1 h]; rfl
  | k + 1, l, h => by
    obtain rfl | ⟨l', b, rfl⟩ := List.eq_nil_or_concat l
    · cases h
    · rw [List.concat_eq_append] at h ⊢
      have h2 := b.toNat_lt
      rw [num_snoc, be, show (num l' * 256 + b.toNat) / 256 = num l' by omega, show (num l' * 256 + b.toNat) % 256 = b.toNat by omega, be_num k l' (by simpa using h)]
      simp
theorem be_inj {w n m : Nat} (hn : n < 256 ^ w) (hm : m < 256 ^ w) (h : be w n = be w m) : n = m := by
  rw [← num_be w n hn, ← num_be w m hm, h]
theorem bl_snoc : ∀ (a b : List UInt8) (x y : UInt8), a.length = b.length → Op.bytesLess (a ++ [x]) (b ++ [y]) = (Op.bytesLess a b || (a == b && decide (x < y)))
  | [], [], x, y, _ => by simp [Op.bytesLess]
  | c :: a, d :: b, x, y, h => by
    have e : (c :: a == d :: b) = (c == d && a == b) := List.cons_beq_cons
    rw [List.cons_append, List.cons_append, Op.bytesLess, Op.bytesLess, bl_snoc a b x y (by simpa using h), e]
    cases decide (c < d) <;> cases c == d <;> cases Op.bytesLess a b <;> cases a == b <;> cases decide (x < y) <;> rfl
theorem bl_pre : ∀ (a x y : List UInt8), Op.bytesLess (a ++ x) (a ++ y) = Op.bytesLess x y
  | [], _, _ => rfl
  | c :: a, x, y => by
    rw [List.cons_append, List.cons_append, Op.bytesLess, bl_pre a x y]
    simp [UInt8.lt_irrefl]
/-- Bytes stand as their numbers do. -/
theorem be_less : ∀ (w n m : Nat), n < 256 ^ w → m < 256 ^ w → Op.bytesLess (be w n) (be w m) = decide (n < m)
  | 0, n, m, hn, hm => by
    have : n = 0 := by simpa using hn
    have : m = 0 := by simpa using hm
    subst_vars
    rfl
  | w + 1, n, m, hn, hm => by
    rw [Nat.pow_succ] at hn hm
    rw [be, be, bl_snoc _ _ _ _ (by rw [be_len, be_len]), be_less w _ _ (by omega) (by omega)]
    have e : decide (UInt8.ofNat (n % 256) < UInt8.ofNat (m % 256)) = decide (n % 256 < m % 256) := by
      rw [Bool.eq_iff_iff]
      simp only [decide_eq_true_eq, UInt8.lt_iff_toNat_lt, ofNat_toNat]
    rw [e]
    by_cases h : n / 256 = m / 256
    · rw [h]
      simp
      omega
    · have h2 : (be w (n / 256) == be w (m / 256)) = false := by
        simp only [beq_eq_false_iff_ne, ne_eq]
        exact fun he => h (be_inj (by omega) (by omega) he)
      rw [h2]
      simp
      omega
theorem tk {n : Nat} {a r : List UInt8} (h : a.length = n) : (a ++ r).take n = a := by subst h; simp
theorem dr {n : Nat} {a r : List UInt8} (h : a.length = n) : (a ++ r).drop n = r := by subst h; simp

/-! ### Inodes -/
def okN (k l s : Int) (t : List UInt8) : Bool :=
  decide (k = 1 ∧ l = 1 ∧ s = 0 ∧ t = [] ∨ k = 2 ∧ 0 < l ∧ s ≤ 65536 ∧ t = [] ∨ k = 3 ∧ 0 < l ∧ t ≠ [] ∧ t.length ≤ 64 ∧ 0 ∉ t ∧ s = t.length)
def enc (k m l s : Int) (t : List UInt8) : List UInt8 := be 1 k.toNat ++ (be 2 m.toNat ++ (be 4 l.toNat ++ (be 4 s.toNat ++ (be 2 t.length ++ t))))
def encS (k m l s : Int) (t : List UInt8) : List UInt8 × Int := if okN k l s t = true then (enc k m l s t, 0) else ([], 4)
abbrev Ino := Int × Int × Int × Int × List UInt8 × Int
def d3 (l : List UInt8) : List UInt8 := (l.drop 1).drop 2
def d7 (l : List UInt8) : List UInt8 := (d3 l).drop 4
def d11 (l : List UInt8) : List UInt8 := (d7 l).drop 4
def d13 (l : List UInt8) : List UInt8 := (d11 l).drop 2
def f1 (l : List UInt8) : Int := num (l.take 1)
def f2 (l : List UInt8) : Int := num ((l.drop 1).take 2)
def f3 (l : List UInt8) : Int := num ((d3 l).take 4)
def f4 (l : List UInt8) : Int := num ((d7 l).take 4)
def whole (l : List UInt8) : Prop := 13 ≤ l.length ∧ l.length = 13 + num ((d11 l).take 2)
instance (l : List UInt8) : Decidable (whole l) := by unfold whole; infer_instance
def decS (l : List UInt8) : Ino := if whole l ∧ okN (f1 l) (f3 l) (f4 l) (d13 l) = true then (f1 l, f2 l, f3 l, f4 l, d13 l, 0) else (0, 0, 0, 0, [], 4)
theorem p1 : 256 ^ 1 = 256 := rfl
theorem p2 : 256 ^ 2 = 65536 := rfl
theorem p4 : 256 ^ 4 = 4294967296 := rfl
theorem dec_enc {k m l s : Int} {t : List UInt8} (h : okN k l s t = true) (hk : 0 ≤ k ∧ k < 256) (hm : 0 ≤ m ∧ m < 65536) (hl : 0 ≤ l ∧ l < 4294967296) (hs : 0 ≤ s ∧ s < 4294967296) :
    decS (enc k m l s t) = (k, m, l, s, t, 0) := by
  have ht : t.length ≤ 64 := by
    unfold okN at h
    rcases of_decide_eq_true h with h | h | h
    · rw [h.2.2.2]; decide
    · rw [h.2.2.2]; decide
    · exact h.2.2.2.1
  have a1 : (enc k m l s t).drop 1 = be 2 m.toNat ++ (be 4 l.toNat ++ (be 4 s.toNat ++ (be 2 t.length ++ t))) := dr (be_len _ _)
  have a3 : d3 (enc k m l s t) = be 4 l.toNat ++ (be 4 s.toNat ++ (be 2 t.length ++ t)) := by unfold d3; rw [a1]; exact dr (be_len _ _)
  have a7 : d7 (enc k m l s t) = be 4 s.toNat ++ (be 2 t.length ++ t) := by unfold d7; rw [a3]; exact dr (be_len _ _)
  have a11 : d11 (enc k m l s t) = be 2 t.length ++ t := by unfold d11; rw [a7]; exact dr (be_len _ _)
  have a13 : d13 (enc k m l s t) = t := by unfold d13; rw [a11]; exact dr (be_len _ _)
  have e1 : f1 (enc k m l s t) = k := by
    unfold f1 enc; rw [tk (be_len _ _), num_be 1 _ (by rw [p1]; omega)]; omega
  have e2 : f2 (enc k m l s t) = m := by
    unfold f2; rw [a1, tk (be_len _ _), num_be 2 _ (by rw [p2]; omega)]; omega
  have e3 : f3 (enc k m l s t) = l := by
    unfold f3; rw [a3, tk (be_len _ _), num_be 4 _ (by rw [p4]; omega)]; omega
  have e4 : f4 (enc k m l s t) = s := by
    unfold f4; rw [a7, tk (be_len _ _), num_be 4 _ (by rw [p4]; omega)]; omega
  have e5 : whole (enc k m l s t) := by
    have hlen : (enc k m l s t).length = 13 + t.length := by unfold enc; simp only [List.length_append, be_len]; omega
    refine ⟨by omega, ?_⟩
    rw [a11, tk (be_len _ _), num_be 2 _ (by rw [p2]; omega), hlen]
  unfold decS
  rw [e1, e2, e3, e4, a13, if_pos ⟨e5, h⟩]
theorem f_range (l : List UInt8) (h : whole l) : (0 ≤ f1 l ∧ f1 l < 256) ∧ (0 ≤ f2 l ∧ f2 l < 65536) ∧ (0 ≤ f3 l ∧ f3 l < 4294967296) ∧ (0 ≤ f4 l ∧ f4 l < 4294967296) := by
  obtain ⟨h1, h2⟩ := h
  have l3 : (d3 l).length = l.length - 3 := by unfold d3; simp only [List.length_drop]; omega
  have l7 : (d7 l).length = l.length - 7 := by unfold d7; rw [List.length_drop, l3]; omega
  have a1 := num_lt 1 (l.take 1) (by rw [List.length_take]; omega)
  have a2 := num_lt 2 ((l.drop 1).take 2) (by rw [List.length_take, List.length_drop]; omega)
  have a3 := num_lt 4 ((d3 l).take 4) (by rw [List.length_take]; omega)
  have a4 := num_lt 4 ((d7 l).take 4) (by rw [List.length_take]; omega)
  rw [p1] at a1
  rw [p2] at a2
  rw [p4] at a3 a4
  unfold f1 f2 f3 f4
  omega

/-! ### Keys -/
def lett (k : Int) : List UInt8 := if k = 1 then [105] else if k = 2 then [100] else if k = 3 then [99] else if k = 4 then [120] else []
def prefL (k i : Int) : List UInt8 := if lett k = [] then [] else lett k ++ be 4 i.toNat
def rightK (k i : Int) (nm : List UInt8) (c : Int) : Bool :=
  decide (0 < i ∧ (k = 1 ∧ nm = [] ∧ c = 0 ∨ (k = 2 ∨ k = 4) ∧ nameL nm = true ∧ c = 0 ∨ k = 3 ∧ nm = [] ∧ c < 512))
def keyL (k i : Int) (nm : List UInt8) (c : Int) : List UInt8 := prefL k i ++ (if k = 3 then be 4 c.toNat else nm)
def keyS (k i : Int) (nm : List UInt8) (c : Int) : List UInt8 × Int := if rightK k i nm c = true then (keyL k i nm c, 0) else ([], 4)
def kindOf (b : UInt8) : Int := if b = 105 then 1 else if b = 100 then 2 else if b = 99 then 3 else if b = 120 then 4 else 0
abbrev KeyT := Int × Int × List UInt8 × Int × Int
def g1 (l : List UInt8) : Int := kindOf (l.headD 0)
def g2 (l : List UInt8) : Int := num ((l.drop 1).take 4)
def r5 (l : List UInt8) : List UInt8 := (l.drop 1).drop 4
def parsS (l : List UInt8) : KeyT :=
  if l.length < 5 then (0, 0, [], 0, 4)
  else if g1 l = 3 then if (r5 l).length = 4 ∧ rightK 3 (g2 l) [] (num (r5 l)) = true then (3, g2 l, [], num (r5 l), 0) else (0, 0, [], 0, 4)
  else if rightK (g1 l) (g2 l) (r5 l) 0 = true then (g1 l, g2 l, r5 l, 0, 0) else (0, 0, [], 0, 4)
theorem lett_one {k : Int} (h : lett k ≠ []) : ∃ b, lett k = [b] ∧ kindOf b = k := by
  unfold lett at *
  by_cases h1 : k = 1
  · subst h1; exact ⟨105, rfl, rfl⟩
  · by_cases h2 : k = 2
    · subst h2; exact ⟨100, rfl, rfl⟩
    · by_cases h3 : k = 3
      · subst h3; exact ⟨99, rfl, rfl⟩
      · by_cases h4 : k = 4
        · subst h4; exact ⟨120, rfl, rfl⟩
        · rw [if_neg h1, if_neg h2, if_neg h3, if_neg h4] at h
          exact absurd rfl h
theorem lett_ne {k i : Int} {nm : List UInt8} {c : Int} (h : rightK k i nm c = true) : lett k ≠ [] := by
  unfold rightK at h
  have h := (of_decide_eq_true h).2
  unfold lett
  rcases h with h | h | h
  · rw [if_pos h.1]; simp
  · rcases h.1 with h | h <;> subst h <;> decide
  · rw [h.1]; decide
theorem prefL_len {k i : Int} (h : lett k ≠ []) : (prefL k i).length = 5 := by
  obtain ⟨b, hb, _⟩ := lett_one h
  unfold prefL
  rw [if_neg h, hb, List.length_append, be_len]
  rfl
theorem key_parts {k i : Int} {nm : List UInt8} {c : Int} (h : lett k ≠ []) (hi : 0 ≤ i ∧ i < 4294967296) :
    g1 (keyL k i nm c) = k ∧ g2 (keyL k i nm c) = i ∧ r5 (keyL k i nm c) = (if k = 3 then be 4 c.toNat else nm) ∧ ¬ (keyL k i nm c).length < 5 := by
  obtain ⟨b, hb, hk⟩ := lett_one h
  have e : keyL k i nm c = b :: (be 4 i.toNat ++ (if k = 3 then be 4 c.toNat else nm)) := by
    unfold keyL prefL
    rw [if_neg h, hb]
    rfl
  rw [e]
  refine ⟨hk, ?_, ?_, ?_⟩
  · unfold g2
    rw [List.drop_one, List.tail_cons, tk (be_len _ _), num_be 4 _ (by rw [p4]; omega)]
    omega
  · unfold r5
    rw [List.drop_one, List.tail_cons, dr (be_len _ _)]
  · rw [List.length_cons, List.length_append, be_len]; omega
theorem pars_key {k i : Int} {nm : List UInt8} {c : Int} (h : rightK k i nm c = true) (hi : 0 ≤ i ∧ i < 4294967296) (hc : 0 ≤ c) : parsS (keyL k i nm c) = (k, i, nm, c, 0) := by
  have hl := lett_ne h
  obtain ⟨a1, a2, a3, a4⟩ := key_parts (nm := nm) (c := c) hl hi
  unfold parsS
  rw [if_neg a4, a1, a2, a3]
  have h0 := h
  unfold rightK at h0
  have h1 := (of_decide_eq_true h0).2
  by_cases h3 : k = 3
  · subst h3
    have hn : nm = [] ∧ c < 512 := by
      rcases h1 with h1 | h1 | h1
      · exact absurd h1.1 (by decide)
      · rcases h1.1 with h1 | h1 <;> exact absurd h1 (by decide)
      · exact h1.2
    obtain ⟨rfl, hc2⟩ := hn
    have e : ((num (be 4 c.toNat) : Nat) : Int) = c := by rw [num_be 4 _ (by rw [p4]; omega)]; omega
    rw [if_pos rfl, if_pos rfl, e, if_pos ⟨be_len _ _, h⟩]
  · have hc0 : c = 0 := by
      rcases h1 with h1 | h1 | h1
      · exact h1.2.2
      · exact h1.2.2
      · exact absurd h1.1 h3
    subst hc0
    rw [if_neg h3, if_neg h3, if_pos h]
theorem kind_lett {b : UInt8} (h : kindOf b ≠ 0) : lett (kindOf b) = [b] := by
  unfold kindOf at *
  by_cases h1 : b = 105
  · subst h1; rfl
  · by_cases h2 : b = 100
    · subst h2; rfl
    · by_cases h3 : b = 99
      · subst h3; rfl
      · by_cases h4 : b = 120
        · subst h4; rfl
        · rw [if_neg h1, if_neg h2, if_neg h3, if_neg h4] at h
          exact absurd rfl h
theorem key_whole {l : List UInt8} (h5 : ¬ l.length < 5) (hk : g1 l ≠ 0) : prefL (g1 l) (g2 l) ++ r5 l = l := by
  match l, h5 with
  | b :: r, h5 =>
    have hk : kindOf b ≠ 0 := hk
    have e : lett (g1 (b :: r)) = [b] := kind_lett hk
    have hr : 4 ≤ r.length := by simp at h5; omega
    unfold prefL
    rw [e, if_neg (by simp)]
    unfold g2 r5
    rw [List.drop_one, List.tail_cons, Int.toNat_natCast, be_num 4 _ (by rw [List.length_take]; omega)]
    simp
  | [], h5 => exact absurd (by decide) h5
theorem g2_range {l : List UInt8} (h5 : ¬ l.length < 5) : 0 ≤ g2 l ∧ g2 l < 4294967296 := by
  have a := num_lt 4 ((l.drop 1).take 4) (by rw [List.length_take, List.length_drop]; omega)
  rw [p4] at a
  unfold g2
  omega
theorem right_kind {k i : Int} {nm : List UInt8} {c : Int} (h : rightK k i nm c = true) : k ≠ 0 := by
  unfold rightK at h
  have h := (of_decide_eq_true h).2
  omega
theorem key_pars {l : List UInt8} {k i : Int} {nm : List UInt8} {c e : Int} (h : parsS l = (k, i, nm, c, e)) (he : e = 0) :
    rightK k i nm c = true ∧ keyL k i nm c = l ∧ (0 ≤ i ∧ i < 4294967296) ∧ 0 ≤ c := by
  subst he
  unfold parsS at h
  by_cases h5 : l.length < 5
  · rw [if_pos h5] at h; simp at h
  · rw [if_neg h5] at h
    by_cases h3 : g1 l = 3
    · rw [if_pos h3] at h
      by_cases hr : (r5 l).length = 4 ∧ rightK 3 (g2 l) [] (num (r5 l)) = true
      · rw [if_pos hr] at h
        simp only [Prod.mk.injEq] at h
        obtain ⟨rfl, rfl, rfl, rfl, _⟩ := h
        have hw := key_whole h5 (by rw [h3]; decide)
        refine ⟨hr.2, ?_, g2_range h5, by omega⟩
        unfold keyL
        rw [if_pos rfl, Int.toNat_natCast, be_num 4 _ hr.1]
        rw [h3] at hw
        exact hw
      · rw [if_neg hr] at h; simp at h
    · rw [if_neg h3] at h
      by_cases hr : rightK (g1 l) (g2 l) (r5 l) 0 = true
      · rw [if_pos hr] at h
        simp only [Prod.mk.injEq] at h
        obtain ⟨rfl, rfl, rfl, rfl, _⟩ := h
        refine ⟨hr, ?_, g2_range h5, by omega⟩
        unfold keyL
        rw [if_neg h3]
        exact key_whole h5 (right_kind hr)
      · rw [if_neg hr] at h; simp at h
theorem key_len {k i : Int} {nm : List UInt8} {c : Int} (h : rightK k i nm c = true) : 5 ≤ (keyL k i nm c).length ∧ (keyL k i nm c).length ≤ 48 := by
  unfold keyL
  rw [List.length_append, prefL_len (lett_ne h)]
  unfold rightK at h
  have h1 := (of_decide_eq_true h).2
  by_cases h3 : k = 3
  · rw [if_pos h3, be_len]; omega
  · rw [if_neg h3]
    have : nm.length ≤ 24 := by
      rcases h1 with h1 | h1 | h1
      · rw [h1.2.1]; decide
      · exact (nameL_iff.1 h1.2.1).2.1
      · exact absurd h1.1 h3
    omega
end Go.Proofs.YthbljhmjppjcjaaGreatDoor.PM
end

section
namespace Go.Proofs.YthbljhmjppjcjaaGreatDoor.Z
open Go.RowKit Go.Proofs.YthbljhmjppjcjaaGreatDoorW.PrintWords Go.Proofs.YthbljhmjppjcjaaGreatDoorW.PrintLast Go.Proofs.YthbljhmjppjcjaaGreatDoorW.PrintMore
attribute [local go_sem] max2_int min2_int max_two min_two max_three min_three max_four min_four   -- for this text's walks alone
set_option linter.unusedVariables false
set_option linter.unusedSimpArgs false
def pack_Text.f (k : Nat) (a0 : ByteArray) : Option (ByteArray × Int) := (pack_Number.f k (IntKind.u64.wrap ((a0.size : Int))) 2).bind fun bt215 => (if bt215.2 = 0 then (if bt215.1.size + a0.size ≤ 9223372036854775807 then (some (bt215.1 ++ a0, 0)) else (none)) else (some ((⟨#[]⟩ : ByteArray), 2)))
theorem pack_Text.mono : ∀ a0 k, LeO (pack_Text.f k a0) (pack_Text.f (k + 1) a0) := by
 intro a0 k
 unfold pack_Text.f
 repeat' first
   | (with_reducible exact pack_Number.mono _ _ _)
   | (with_reducible exact LeO.refl _)
   | (with_reducible exact LeO.none _)
   | (with_reducible refine LeO.ite ?_ ?_)
   | (with_reducible refine LeO.bind ?_ (fun _ => ?_))
   | exact pack_Number.mono _ _ _
   | exact LeO.none _
   | refine LeO.ite ?_ ?_
   | refine LeO.bind ?_ (fun _ => ?_)
set_option maxHeartbeats 8000000 in
set_option maxRecDepth 100000 in
theorem pack_Text.calls (k : Nat) (a0 : ByteArray) (r1 : ByteArray) (r2 : Int) (w : World) (h : pack_Text.f k a0 = some (r1, r2)) :
  Calls Tryz.prog 20 #[.string a0] w fun e w' => e = .returned (.tuple #[.string r1, .int .i64 r2]) ∧ Below w.heap.size w w' := by
 have HB := Aside0.mk (Below.refl w.heap.size w)
 have H : ((pack_Number.f k (IntKind.u64.wrap ((a0.size : Int))) 2).bind fun bt215 => (if bt215.2 = 0 then (if bt215.1.size + a0.size ≤ 9223372036854775807 then (some (bt215.1 ++ a0, 0)) else (none)) else (some ((⟨#[]⟩ : ByteArray), 2)))) = some (r1, r2) := h
 clear h
 replace H := Option.bind_eq_some_iff.mp H
 obtain ⟨⟨t215, t216⟩, A20, H⟩ := H
 replace H : (if t216 = 0 then (if t215.size + a0.size ≤ 9223372036854775807 then (some (t215 ++ a0, 0)) else (none)) else (some ((⟨#[]⟩ : ByteArray), 2))) = some (r1, r2) := H
 have A2 := Aside0.mk A20
 clear A20
 by_cases c3 : t216 = 0
 ·rw [if_pos c3] at H
  have c3b0 : (t216 == 0) = true := beq_iff_eq.mpr c3
  have c3b1 : (t216 != 0) = false := bne_eq_false_iff_eq.mpr c3
  clear c3
  by_cases c4 : t215.size + a0.size ≤ 9223372036854775807
  ·rw [if_pos c4] at H
   have c4b0 := eq_true c4
   have c4b1 : decide (t215.size + a0.size ≤ 9223372036854775807) = true := decide_eq_true c4
   try have c4b2 : (9223372036854775807 < t215.size + a0.size) = False := eq_false (Nat.not_lt.2 c4)
   simp only [Option.some.injEq, Prod.mk.injEq] at H
   obtain ⟨rfl, rfl⟩ := H
   go_enter Tryz.func20, Tryz.ntmps20
   go_wp2_with (first | ((with_reducible refine gate_callee (f := 8) rfl ?_); refine goesL_ (some 10) rfl rfl Tryz.func8 (by kernel_rfl) rfl #[.int .u64 (IntKind.u64.wrap ((a0.size : Int))), .int .i64 2] rfl (by (try simp only [List.map_toArray, List.map_cons, List.map_nil]); first | done | rfl | (rw [show IntKind.u64.wrap ((a0.size : Int)) = ((a0.size : Int)) from IntWalk.u64_in _ (by simp only [decide_eq_false_iff_not, decide_eq_true_eq] at *; omega)]; rfl) | (simp only [List.length_drop, List.length_take]; rfl)) ?_; (with_reducible refine (pack_Number.calls k (IntKind.u64.wrap ((a0.size : Int))) 2 t215 t216 _ A2.out).mono ?_); rintro e w5 ⟨rfl, hb⟩; refine ⟨_, rfl, ?_⟩; replace HB := hb_ hb; (try clear hb); (try clear hb2); (try clear hk); (try clear hi)))
   go_ret2
   exact ⟨by first | rfl | (simp [errW_none, errW_some] <;> rfl) | (simp [*, errW_none, errW_some] <;> rfl), bel_⟩
  rw [if_neg c4] at H
  exact absurd H (by simp)
 rw [if_neg c3] at H
 have c3b0 : (t216 == 0) = false := beq_eq_false_iff_ne.mpr c3
 have c3b1 : (t216 != 0) = true := bne_iff_ne.mpr c3
 simp only [Option.some.injEq, Prod.mk.injEq] at H
 obtain ⟨rfl, rfl⟩ := H
 go_enter Tryz.func20, Tryz.ntmps20
 go_wp2_with (first | ((with_reducible refine gate_callee (f := 8) rfl ?_); refine goesL_ (some 10) rfl rfl Tryz.func8 (by kernel_rfl) rfl #[.int .u64 (IntKind.u64.wrap ((a0.size : Int))), .int .i64 2] rfl (by (try simp only [List.map_toArray, List.map_cons, List.map_nil]); first | done | rfl | (rw [show IntKind.u64.wrap ((a0.size : Int)) = ((a0.size : Int)) from IntWalk.u64_in _ (by simp only [decide_eq_false_iff_not, decide_eq_true_eq] at *; omega)]; rfl) | (simp only [List.length_drop, List.length_take]; rfl)) ?_; (with_reducible refine (pack_Number.calls k (IntKind.u64.wrap ((a0.size : Int))) 2 t215 t216 _ A2.out).mono ?_); rintro e w6 ⟨rfl, hb⟩; refine ⟨_, rfl, ?_⟩; replace HB := hb_ hb; (try clear hb); (try clear hb2); (try clear hk); (try clear hi)))
 go_ret2
 exact ⟨by first | rfl | (simp [errW_none, errW_some] <;> rfl) | (simp [*, errW_none, errW_some] <;> rfl), bel_⟩
def inode_Encode.f (k : Nat) (a0_0 : Int) (a0_1 : Int) (a0_2 : Int) (a0_3 : Int) (a0_4 : ByteArray) : Option (ByteArray × Int) := (inode_Check.f a0_0 a0_1 a0_2 a0_3 a0_4).bind fun t218 => (if t218 = 0 then ((pack_Text.f k a0_4).bind fun bt219 => ((inode_number.f k (IntKind.u64.wrap (a0_0)) 1).bind fun t221 => ((inode_number.f k (IntKind.u64.wrap (a0_1)) 2).bind fun t222 => (if t221.size + t222.size ≤ 9223372036854775807 then ((inode_number.f k (IntKind.u64.wrap (a0_2)) 4).bind fun t223 => (if (t221 ++ t222).size + t223.size ≤ 9223372036854775807 then ((inode_number.f k (IntKind.u64.wrap (a0_3)) 4).bind fun t224 => (if ((t221 ++ t222) ++ t223).size + t224.size ≤ 9223372036854775807 then (if (((t221 ++ t222) ++ t223) ++ t224).size + bt219.1.size ≤ 9223372036854775807 then (some ((((t221 ++ t222) ++ t223) ++ t224) ++ bt219.1, 0)) else (none)) else (none))) else (none))) else (none))))) else (some ((⟨#[]⟩ : ByteArray), t218)))
theorem inode_Encode.mono : ∀ a0 a1 a2 a3 a4 k, LeO (inode_Encode.f k a0 a1 a2 a3 a4) (inode_Encode.f (k + 1) a0 a1 a2 a3 a4) := by
 intro a0 a1 a2 a3 a4 k
 unfold inode_Encode.f
 repeat' first
   | (with_reducible exact inode_number.mono _ _ _)
   | (with_reducible exact pack_Text.mono _ _)
   | (with_reducible exact LeO.refl _)
   | (with_reducible exact LeO.none _)
   | (with_reducible refine LeO.ite ?_ ?_)
   | (with_reducible refine LeO.bind ?_ (fun _ => ?_))
   | exact inode_number.mono _ _ _
   | exact pack_Text.mono _ _
   | exact LeO.none _
   | refine LeO.ite ?_ ?_
   | refine LeO.bind ?_ (fun _ => ?_)
def inode_Encode.T5 : Bool × List (List Nat × List Nat) := (true, [([], []), ([0], [0]), ([1], [1]), ([2], [2]), ([], []), ([4], [4]), ([5], [5]), ([6, 3], [6]), ([3, 7], [3, 7]), ([], []), ([9], [9]), ([10], [10]), ([11, 7], [11]), ([8, 12], [8, 12]), ([], []), ([14], [14]), ([15], [15]), ([16, 12], [16]), ([13, 17], [13, 17]), ([], []), ([18, 19], [18, 19]), ([20, 17, 0, 1, 2, 3, 4, 5, 6, 7, 8, 9, 10, 11, 12, 13, 14, 15, 16, 17, 18, 19, 20], [20]), ([21, 0, 1, 2, 3, 4, 5, 6, 7, 8, 9, 10, 11, 12, 13, 14, 15, 16, 17, 18, 19, 20, 21], [])])
def inode_Encode.B5 : List Nat := [0, 1, 3, 7, 0, 16, 48, 127, 255, 0, 512, 1536, 3839, 8191, 0, 16384, 49152, 122623, 262143, 0, 1048575, 2097151, 4194303]
theorem inode_Encode.tab5 : rtab .any (opsOf Tryz.f6 5) = inode_Encode.T5 := by kernel_rfl
theorem inode_Encode.bits5 : waitsOk inode_Encode.T5.2 inode_Encode.B5 = true := by kernel_rfl
set_option maxHeartbeats 8000000 in
set_option maxRecDepth 100000 in
theorem inode_Encode.calls (k : Nat) (a0_0 : Int) (a0_1 : Int) (a0_2 : Int) (a0_3 : Int) (a0_4 : ByteArray) (r1 : ByteArray) (r2 : Int) (w : World) (h : inode_Encode.f k a0_0 a0_1 a0_2 a0_3 a0_4 = some (r1, r2)) :
  Calls Tryz.prog 6 #[.agg #[.int .u8 a0_0, .int .u16 a0_1, .int .u32 a0_2, .int .u32 a0_3, .string a0_4]] w fun e w' => e = .returned (.tuple #[.string r1, .int .i64 r2]) ∧ Below w.heap.size w w' := by
 have hu33 := Tryz.underlying33
 have HB := Aside0.mk (Below.refl w.heap.size w)
 have H : ((inode_Check.f a0_0 a0_1 a0_2 a0_3 a0_4).bind fun t218 => (if t218 = 0 then ((pack_Text.f k a0_4).bind fun bt219 => ((inode_number.f k (IntKind.u64.wrap (a0_0)) 1).bind fun t221 => ((inode_number.f k (IntKind.u64.wrap (a0_1)) 2).bind fun t222 => (if t221.size + t222.size ≤ 9223372036854775807 then ((inode_number.f k (IntKind.u64.wrap (a0_2)) 4).bind fun t223 => (if (t221 ++ t222).size + t223.size ≤ 9223372036854775807 then ((inode_number.f k (IntKind.u64.wrap (a0_3)) 4).bind fun t224 => (if ((t221 ++ t222) ++ t223).size + t224.size ≤ 9223372036854775807 then (if (((t221 ++ t222) ++ t223) ++ t224).size + bt219.1.size ≤ 9223372036854775807 then (some ((((t221 ++ t222) ++ t223) ++ t224) ++ bt219.1, 0)) else (none)) else (none))) else (none))) else (none))))) else (some ((⟨#[]⟩ : ByteArray), t218)))) = some (r1, r2) := h
 clear h
 replace H := Option.bind_eq_some_iff.mp H
 obtain ⟨t218, A20, H⟩ := H
 replace H : (if t218 = 0 then ((pack_Text.f k a0_4).bind fun bt219 => ((inode_number.f k (IntKind.u64.wrap (a0_0)) 1).bind fun t221 => ((inode_number.f k (IntKind.u64.wrap (a0_1)) 2).bind fun t222 => (if t221.size + t222.size ≤ 9223372036854775807 then ((inode_number.f k (IntKind.u64.wrap (a0_2)) 4).bind fun t223 => (if (t221 ++ t222).size + t223.size ≤ 9223372036854775807 then ((inode_number.f k (IntKind.u64.wrap (a0_3)) 4).bind fun t224 => (if ((t221 ++ t222) ++ t223).size + t224.size ≤ 9223372036854775807 then (if (((t221 ++ t222) ++ t223) ++ t224).size + bt219.1.size ≤ 9223372036854775807 then (some ((((t221 ++ t222) ++ t223) ++ t224) ++ bt219.1, 0)) else (none)) else (none))) else (none))) else (none))))) else (some ((⟨#[]⟩ : ByteArray), t218))) = some (r1, r2) := H
 have A2 := Aside0.mk A20
 clear A20
 by_cases c3 : t218 = 0
 ·rw [if_pos c3] at H
  have c3b0 : (t218 == 0) = true := beq_iff_eq.mpr c3
  have c3b1 : (t218 != 0) = false := bne_eq_false_iff_eq.mpr c3
  clear c3
  replace H := Option.bind_eq_some_iff.mp H
  obtain ⟨⟨t219, t220⟩, A40, H⟩ := H
  replace H : ((inode_number.f k (IntKind.u64.wrap (a0_0)) 1).bind fun t221 => ((inode_number.f k (IntKind.u64.wrap (a0_1)) 2).bind fun t222 => (if t221.size + t222.size ≤ 9223372036854775807 then ((inode_number.f k (IntKind.u64.wrap (a0_2)) 4).bind fun t223 => (if (t221 ++ t222).size + t223.size ≤ 9223372036854775807 then ((inode_number.f k (IntKind.u64.wrap (a0_3)) 4).bind fun t224 => (if ((t221 ++ t222) ++ t223).size + t224.size ≤ 9223372036854775807 then (if (((t221 ++ t222) ++ t223) ++ t224).size + t219.size ≤ 9223372036854775807 then (some ((((t221 ++ t222) ++ t223) ++ t224) ++ t219, 0)) else (none)) else (none))) else (none))) else (none)))) = some (r1, r2) := H
  have A4 := Aside0.mk A40
  clear A40
  replace H := Option.bind_eq_some_iff.mp H
  obtain ⟨t221, A50, H⟩ := H
  replace H : ((inode_number.f k (IntKind.u64.wrap (a0_1)) 2).bind fun t222 => (if t221.size + t222.size ≤ 9223372036854775807 then ((inode_number.f k (IntKind.u64.wrap (a0_2)) 4).bind fun t223 => (if (t221 ++ t222).size + t223.size ≤ 9223372036854775807 then ((inode_number.f k (IntKind.u64.wrap (a0_3)) 4).bind fun t224 => (if ((t221 ++ t222) ++ t223).size + t224.size ≤ 9223372036854775807 then (if (((t221 ++ t222) ++ t223) ++ t224).size + t219.size ≤ 9223372036854775807 then (some ((((t221 ++ t222) ++ t223) ++ t224) ++ t219, 0)) else (none)) else (none))) else (none))) else (none))) = some (r1, r2) := H
  have A5 := Aside0.mk A50
  clear A50
  replace H := Option.bind_eq_some_iff.mp H
  obtain ⟨t222, A60, H⟩ := H
  replace H : (if t221.size + t222.size ≤ 9223372036854775807 then ((inode_number.f k (IntKind.u64.wrap (a0_2)) 4).bind fun t223 => (if (t221 ++ t222).size + t223.size ≤ 9223372036854775807 then ((inode_number.f k (IntKind.u64.wrap (a0_3)) 4).bind fun t224 => (if ((t221 ++ t222) ++ t223).size + t224.size ≤ 9223372036854775807 then (if (((t221 ++ t222) ++ t223) ++ t224).size + t219.size ≤ 9223372036854775807 then (some ((((t221 ++ t222) ++ t223) ++ t224) ++ t219, 0)) else (none)) else (none))) else (none))) else (none)) = some (r1, r2) := H
  have A6 := Aside0.mk A60
  clear A60
  by_cases c7 : t221.size + t222.size ≤ 9223372036854775807
  ·rw [if_pos c7] at H
   have c7b0 := eq_true c7
   have c7b1 : decide (t221.size + t222.size ≤ 9223372036854775807) = true := decide_eq_true c7
   try have c7b2 : (9223372036854775807 < t221.size + t222.size) = False := eq_false (Nat.not_lt.2 c7)
   replace H := Option.bind_eq_some_iff.mp H
   obtain ⟨t223, A80, H⟩ := H
   replace H : (if (t221 ++ t222).size + t223.size ≤ 9223372036854775807 then ((inode_number.f k (IntKind.u64.wrap (a0_3)) 4).bind fun t224 => (if ((t221 ++ t222) ++ t223).size + t224.size ≤ 9223372036854775807 then (if (((t221 ++ t222) ++ t223) ++ t224).size + t219.size ≤ 9223372036854775807 then (some ((((t221 ++ t222) ++ t223) ++ t224) ++ t219, 0)) else (none)) else (none))) else (none)) = some (r1, r2) := H
   have A8 := Aside0.mk A80
   clear A80
   by_cases c9 : (t221 ++ t222).size + t223.size ≤ 9223372036854775807
   ·rw [if_pos c9] at H
    have c9b0 := eq_true c9
    have c9b1 : decide ((t221 ++ t222).size + t223.size ≤ 9223372036854775807) = true := decide_eq_true c9
    have c9b1x := c9b1
    (try simp only [ByteArray.size_append, Int.natCast_add] at c9b1x)
    try have c9b2 : (9223372036854775807 < (t221 ++ t222).size + t223.size) = False := eq_false (Nat.not_lt.2 c9)
    try have c9b2x := c9b2
    (try simp only [ByteArray.size_append, Int.natCast_add] at c9b2x)
    replace H := Option.bind_eq_some_iff.mp H
    obtain ⟨t224, A100, H⟩ := H
    replace H : (if ((t221 ++ t222) ++ t223).size + t224.size ≤ 9223372036854775807 then (if (((t221 ++ t222) ++ t223) ++ t224).size + t219.size ≤ 9223372036854775807 then (some ((((t221 ++ t222) ++ t223) ++ t224) ++ t219, 0)) else (none)) else (none)) = some (r1, r2) := H
    have A10 := Aside0.mk A100
    clear A100
    by_cases c11 : ((t221 ++ t222) ++ t223).size + t224.size ≤ 9223372036854775807
    ·rw [if_pos c11] at H
     have c11b0 := eq_true c11
     have c11b1 : decide (((t221 ++ t222) ++ t223).size + t224.size ≤ 9223372036854775807) = true := decide_eq_true c11
     have c11b1x := c11b1
     (try simp only [ByteArray.size_append, Int.natCast_add] at c11b1x)
     try have c11b2 : (9223372036854775807 < ((t221 ++ t222) ++ t223).size + t224.size) = False := eq_false (Nat.not_lt.2 c11)
     try have c11b2x := c11b2
     (try simp only [ByteArray.size_append, Int.natCast_add] at c11b2x)
     by_cases c12 : (((t221 ++ t222) ++ t223) ++ t224).size + t219.size ≤ 9223372036854775807
     ·rw [if_pos c12] at H
      have c12b0 := eq_true c12
      have c12b1 : decide ((((t221 ++ t222) ++ t223) ++ t224).size + t219.size ≤ 9223372036854775807) = true := decide_eq_true c12
      have c12b1x := c12b1
      (try simp only [ByteArray.size_append, Int.natCast_add] at c12b1x)
      try have c12b2 : (9223372036854775807 < (((t221 ++ t222) ++ t223) ++ t224).size + t219.size) = False := eq_false (Nat.not_lt.2 c12)
      try have c12b2x := c12b2
      (try simp only [ByteArray.size_append, Int.natCast_add] at c12b2x)
      simp only [Option.some.injEq, Prod.mk.injEq] at H
      obtain ⟨rfl, rfl⟩ := H
      go_enter Tryz.func6, Tryz.ntmps6
      try go_wp2_with (first | ((with_reducible refine gate_dst (N := 1) rfl ?_); refine bx_ (N := 1) (cs := #[.int .u8 a0_0, .int .u16 a0_1, .int .u32 a0_2, .int .u32 a0_3, .string a0_4]) (t := 33) ?_; intro gb217 hg w13 hbox hb; have BK217 := Aside0.mk (hbox); have GW217 := ge_ hg; have GE217 := ge_ hg; replace HB := hb_ hb; clear hb hbox hg; obtain ⟨hcz14_0, hcz14_1, hcz14_2, hcz14_3, hcz14_4⟩ := cl5_ BK217; obtain ⟨hfz14_0, hfz14_1, hfz14_2, hfz14_3, hfz14_4⟩ := fz5_ BK217) | ((with_reducible refine gate_callee (f := 19) rfl ?_); refine gl_ (some 8) Tryz.func19 #[.agg #[.int .u8 a0_0, .int .u16 a0_1, .int .u32 a0_2, .int .u32 a0_3, .string a0_4]] ?_; (with_reducible refine (inode_Check.calls a0_0 a0_1 a0_2 a0_3 a0_4 t218 _ A2.out).mono ?_); rintro e w15 ⟨rfl, hb⟩; refine ⟨_, rfl, ?_⟩; replace BK217 := kb_ BK217 hb; replace HB := hb_ hb; (try clear hb); (try clear hb2); (try clear hk); (try clear hi); obtain ⟨hcz16_0, hcz16_1, hcz16_2, hcz16_3, hcz16_4⟩ := cl5_ BK217; obtain ⟨hfz16_0, hfz16_1, hfz16_2, hfz16_3, hfz16_4⟩ := fz5_ BK217) | ((with_reducible refine gate_callee (f := 20) rfl ?_); refine gl_ (some 15) Tryz.func20 #[.string a0_4] ?_; (with_reducible refine (pack_Text.calls k a0_4 t219 t220 _ A4.out).mono ?_); rintro e w17 ⟨rfl, hb⟩; refine ⟨_, rfl, ?_⟩; replace BK217 := kb_ BK217 hb; replace HB := hb_ hb; (try clear hb); (try clear hb2); (try clear hk); (try clear hi)))
      replace BK217 := Aside0.mk (blk_drew BK217.out)
      replace HB := Aside0.mk (below_drew1 HB.out)
      refine start_ (n := 23) (S := fun w' => w'.cell? ⟨gb217, 0, none⟩ = some (.int .u8 a0_0) ∧ w'.cell? ⟨gb217, 1, none⟩ = some (.int .u16 a0_1) ∧ w'.cell? ⟨gb217, 2, none⟩ = some (.int .u32 a0_2) ∧ w'.cell? ⟨gb217, 3, none⟩ = some (.int .u32 a0_3) ∧ w'.cell? ⟨gb217, 4, none⟩ = some (.string a0_4)) (ds := []) #[false, false, false, false, false, false, false, false, false, false, false, false, false, false, false, false, false, false, false, false, false, false, false] (by kernel_rfl) rfl rfl hc_ (fun hHeld => ?_); refine with_tabW inode_Encode.tab5 inode_Encode.bits5 (fun HT_ HW_ => ?_)
      generalize w17.drew = w18 at BK217 HB hHeld ⊢
      refine pu_ 0 18 ?_
      refine pu_ 4 22 ?_
      refine pu_ 9 27 ?_
      refine pu_ 14 32 ?_
      refine pu_ 19 37 ?_
      refine tk5_ 1 19 ?_
      refine pu_ 2 20 ?_
      refine tk5_ 5 23 ?_
      refine pu_ 6 24 ?_
      refine tk5_ 10 28 ?_
      refine pu_ 11 29 ?_
      refine tk5_ 15 33 ?_
      refine pu_ 16 34 ?_
      refine on_ 3 21 (fun K hK => ?_)
      refine goes_ Tryz.func21 (by kernel_rfl) rfl #[.int .u64 (IntKind.u64.wrap (a0_0)), .int .i64 1] (by rfl) rfl rfl (by (try simp only [List.map_toArray, List.map_cons, List.map_nil]); first | done | rfl | (simp only [List.length_drop, List.length_take]; rfl)) ?_
      with_reducible refine (inode_number.calls k (IntKind.u64.wrap (a0_0)) 1 t221 _ A5.out).mono ?_
      rintro e w19 ⟨rfl, hb⟩
      refine ⟨_, rfl, ?_⟩
      replace BK217 := kb_ BK217 hb
      replace HB := hb_ hb
      (try clear hb)
      (try clear hb2)
      (try clear hk)
      (try clear hi)
      refine hK.out _ _ hc_ (fun hHeld => ?_)
      clear hK K
      refine nm_ 21 ?_
      refine on_ 7 25 (fun K hK => ?_)
      refine goes_ Tryz.func21 (by kernel_rfl) rfl #[.int .u64 (IntKind.u64.wrap (a0_1)), .int .i64 2] (by rfl) rfl rfl (by (try simp only [List.map_toArray, List.map_cons, List.map_nil]); first | done | rfl | (simp only [List.length_drop, List.length_take]; rfl)) ?_
      with_reducible refine (inode_number.calls k (IntKind.u64.wrap (a0_1)) 2 t222 _ A6.out).mono ?_
      rintro e w20 ⟨rfl, hb⟩
      refine ⟨_, rfl, ?_⟩
      replace BK217 := kb_ BK217 hb
      replace HB := hb_ hb
      (try clear hb)
      (try clear hb2)
      (try clear hk)
      (try clear hi)
      refine hK.out _ _ hc_ (fun hHeld => ?_)
      clear hK K
      refine nm_ 25 ?_
      refine pu_ 8 26 ?_
      refine on_ 12 30 (fun K hK => ?_)
      refine goes_ Tryz.func21 (by kernel_rfl) rfl #[.int .u64 (IntKind.u64.wrap (a0_2)), .int .i64 4] (by rfl) rfl rfl (by (try simp only [List.map_toArray, List.map_cons, List.map_nil]); first | done | rfl | (simp only [List.length_drop, List.length_take]; rfl)) ?_
      with_reducible refine (inode_number.calls k (IntKind.u64.wrap (a0_2)) 4 t223 _ A8.out).mono ?_
      rintro e w21 ⟨rfl, hb⟩
      refine ⟨_, rfl, ?_⟩
      replace BK217 := kb_ BK217 hb
      replace HB := hb_ hb
      (try clear hb)
      (try clear hb2)
      (try clear hk)
      (try clear hi)
      refine hK.out _ _ hc_ (fun hHeld => ?_)
      clear hK K
      refine nm_ 30 ?_
      refine pu_ 13 31 ?_
      refine on_ 17 35 (fun K hK => ?_)
      refine goes_ Tryz.func21 (by kernel_rfl) rfl #[.int .u64 (IntKind.u64.wrap (a0_3)), .int .i64 4] (by rfl) rfl rfl (by (try simp only [List.map_toArray, List.map_cons, List.map_nil]); first | done | rfl | (simp only [List.length_drop, List.length_take]; rfl)) ?_
      with_reducible refine (inode_number.calls k (IntKind.u64.wrap (a0_3)) 4 t224 _ A10.out).mono ?_
      rintro e w22 ⟨rfl, hb⟩
      refine ⟨_, rfl, ?_⟩
      replace BK217 := kb_ BK217 hb
      replace HB := hb_ hb
      (try clear hb)
      (try clear hb2)
      (try clear hk)
      (try clear hi)
      refine hK.out _ _ hc_ (fun hHeld => ?_)
      clear hK K
      refine nm_ 35 ?_
      refine pu_ 18 36 ?_
      refine pu_ 20 38 ?_
      refine pu_ 21 2 ?_
      refine pu_ 22 3 ?_
      refine done_ (done_of HT_.out (by kernel_rfl)) ?_
      try go_wp2
      go_ret2
      exact ⟨by first | rfl | (simp [errW_none, errW_some] <;> rfl) | (simp [*, errW_none, errW_some] <;> rfl), bel_⟩
     rw [if_neg c12] at H
     exact absurd H (by simp)
    rw [if_neg c11] at H
    exact absurd H (by simp)
   rw [if_neg c9] at H
   exact absurd H (by simp)
  rw [if_neg c7] at H
  exact absurd H (by simp)
 rw [if_neg c3] at H
 have c3b0 : (t218 == 0) = false := beq_eq_false_iff_ne.mpr c3
 have c3b1 : (t218 != 0) = true := bne_iff_ne.mpr c3
 simp only [Option.some.injEq, Prod.mk.injEq] at H
 obtain ⟨rfl, rfl⟩ := H
 go_enter Tryz.func6, Tryz.ntmps6
 go_wp2_with (first | ((with_reducible refine gate_dst (N := 1) rfl ?_); refine bx_ (N := 1) (cs := #[.int .u8 a0_0, .int .u16 a0_1, .int .u32 a0_2, .int .u32 a0_3, .string a0_4]) (t := 33) ?_; intro gb217 hg w23 hbox hb; have BK217 := Aside0.mk (hbox); have GW217 := ge_ hg; have GE217 := ge_ hg; replace HB := hb_ hb; clear hb hbox hg; obtain ⟨hcz24_0, hcz24_1, hcz24_2, hcz24_3, hcz24_4⟩ := cl5_ BK217; obtain ⟨hfz24_0, hfz24_1, hfz24_2, hfz24_3, hfz24_4⟩ := fz5_ BK217) | ((with_reducible refine gate_callee (f := 19) rfl ?_); refine gl_ (some 8) Tryz.func19 #[.agg #[.int .u8 a0_0, .int .u16 a0_1, .int .u32 a0_2, .int .u32 a0_3, .string a0_4]] ?_; (with_reducible refine (inode_Check.calls a0_0 a0_1 a0_2 a0_3 a0_4 t218 _ A2.out).mono ?_); rintro e w25 ⟨rfl, hb⟩; refine ⟨_, rfl, ?_⟩; replace BK217 := kb_ BK217 hb; replace HB := hb_ hb; (try clear hb); (try clear hb2); (try clear hk); (try clear hi)))
 go_ret2
 exact ⟨by first | rfl | (simp [errW_none, errW_some] <;> rfl) | (simp [*, errW_none, errW_some] <;> rfl), bel_⟩
end Go.Proofs.YthbljhmjppjcjaaGreatDoor.Z
end

section
/- What numbers', texts', inodes' and keys' functions come to. -/
namespace Go.Proofs.YthbljhmjppjcjaaGreatDoor.Z
open Go.RowKit Go.Proofs.YthbljhmjppjcjaaGreatDoorW.PrintWords Go.Proofs.YthbljhmjppjcjaaGreatDoorW.PrintLast Go.Proofs.YthbljhmjppjcjaaGreatDoorW.PrintMore Go.Proofs.YthbljhmjppjcjaaGreatDoor.PM
set_option linter.unusedVariables false
/-! ### Numbers -/
theorem bitLenAux_le : ∀ (f m x : Nat), x < 2 ^ m → Lib.bitLenAux f x ≤ m
  | 0, m, x, h => by simp [Lib.bitLenAux]
  | f + 1, m, x, h => by
    unfold Lib.bitLenAux
    by_cases h0 : x = 0
    · rw [if_pos h0]; omega
    · rw [if_neg h0]
      match m, h with
      | 0, h => simp at h; omega
      | m + 1, h =>
        have := bitLenAux_le f m (x / 2) (by rw [Nat.pow_succ] at h; omega)
        omega
theorem pow_two (w : Nat) : 256 ^ w = 2 ^ (8 * w) := by rw [Nat.pow_mul]
theorem nums_be : ∀ (l : List UInt8), strOfNums (l.map (fun b => (b.toNat : Int))) = ba l := by
  intro l
  unfold strOfNums ba
  rw [List.map_map]
  congr 2
  conv => rhs; rw [← List.map_id l]
  apply List.map_congr_left
  intro b _
  simp
def beI (w n : Nat) : List Int := (be w n).map (fun b => (b.toNat : Int))
theorem set_mid (a b : List Int) (x v : Int) {n : Nat} (h : a.length = n) : (a ++ x :: b).set n v = a ++ v :: b := by subst h; simp
theorem pow_cast (m : Nat) : ((2 : Int) ^ m) = ((2 ^ m : Nat) : Int) := by simp
theorem u64w {x : Int} (h0 : 0 ≤ x) (h1 : x < 18446744073709551616) : IntKind.u64.wrap x = x := IntWalk.u64_in x ⟨h0, by omega⟩
theorem number_l0 (n w : Nat) (hw : w ≤ 8) : ∀ d i : Nat, w = i + d →
    Ev (fun k => pack_Number.l0 k (n : Int) (w : Int) (List.replicate d 0 ++ beI i n) (w : Int) (i : Int)) (ba (be w n), 0)
  | 0, i, hi => by
    refine Ev.step (fun k => by rw [pack_Number.l0]) ?_
    refine Ev.ifn (by omega) (Ev.const ?_)
    obtain rfl : w = i := by omega
    rw [List.replicate_zero, List.nil_append]
    unfold beI
    rw [nums_be]
  | d + 1, i, hi => by
    refine Ev.step (fun k => by rw [pack_Number.l0]) ?_
    have e1 : wrap64 (8 * (i : Int)) = ((8 * i : Nat) : Int) := by rw [w64 (by omega) (by omega)]; omega
    have e2 : wrap64 (wrap64 ((w : Int) - 1) - (i : Int)) = (d : Int) := by rw [w64 (i := (w : Int) - 1) (by omega) (by omega), w64 (by omega) (by omega)]; omega
    have e3 : wrap64 ((i : Int) + 1) = ((i + 1 : Nat) : Int) := by rw [w64 (by omega) (by omega)]; omega
    have hl : (List.replicate (d + 1) (0 : Int) ++ beI i n).length = w := by unfold beI; rw [List.length_append, List.length_replicate, List.length_map, be_len]; omega
    rw [e1, e2, e3]
    refine Ev.ifp (by omega) (Ev.ifp (by omega) (Ev.ifp (by omega) (Ev.ifp (by rw [hl]; omega) ?_)))
    refine Ev.congr (fun k => ?_) (number_l0 n w hw d (i + 1) (by omega))
    have e4 : shr .u64 (n : Int) ((8 * i : Nat) : Int) % 256 = ((n / 256 ^ i % 256 : Nat) : Int) := by
      unfold shr
      rw [Int.toNat_natCast, show IntKind.u64.bits = 64 from rfl, Nat.min_eq_left (by omega), pow_cast, pow_two]
      simp
    have e5 : (List.replicate (d + 1) (0 : Int) ++ beI i n).set ((d : Int)).toNat (((n / 256 ^ i % 256 : Nat) : Int)) = List.replicate d 0 ++ beI (i + 1) n := by
      rw [Int.toNat_natCast, List.replicate_succ', List.append_assoc, List.singleton_append, set_mid _ _ _ _ (by simp)]
      congr 1
      unfold beI
      rw [be_cons, List.map_cons, ofNat_toNat]
    rw [e4, e5]
theorem number_f (n w : Nat) (h1 : 1 ≤ w) (h8 : w ≤ 8) (hn : n < 256 ^ w) : Ev (fun k => pack_Number.f k (n : Int) (w : Int)) (ba (be w n), 0) := by
  unfold pack_Number.f
  have hp : 256 ^ w ≤ 256 ^ 8 := Nat.pow_le_pow_right (by decide) h8
  have hn8 : n < 18446744073709551616 := by have : 256 ^ 8 = 18446744073709551616 := rfl; omega
  have hb : bits_Len64.f (n : Int) = some ((Lib.bitLen n : Nat) : Int) := by
    unfold bits_Len64.f
    rw [if_pos ⟨by omega, by omega⟩, Int.toNat_natCast]
  have hl : Lib.bitLen n ≤ 8 * w := bitLenAux_le 64 (8 * w) n (by rw [← pow_two]; exact hn)
  refine Ev.ifn (by omega) (Ev.ifn (by omega) (Ev.bindc hb ?_))
  have e : decide (((Lib.bitLen n : Nat) : Int) > wrap64 (8 * (w : Int))) = false := by
    rw [w64 (by omega) (by omega)]; simp; omega
  rw [e]
  refine Ev.step (fun k => by rw [pack_Number.j0]) ?_
  refine Ev.ifn (by decide) (Ev.ifp (by omega) (Ev.ifp (by rw [Int.toNat_natCast]; omega) (Ev.bindc rfl ?_)))
  have h := number_l0 n w h8 w 0 (by omega)
  rw [show beI 0 n = [] from rfl, List.append_nil] at h
  rw [Int.toNat_natCast, List.length_replicate]
  exact h
theorem num_f (n : Int) (w : Nat) (h1 : 1 ≤ w) (h8 : w ≤ 8) (h0 : 0 ≤ n) (hn : n.toNat < 256 ^ w) : Ev (fun k => inode_number.f k (IntKind.u64.wrap n) (w : Int)) (ba (be w n.toNat)) := by
  unfold inode_number.f
  have hp : 256 ^ w ≤ 256 ^ 8 := Nat.pow_le_pow_right (by decide) h8
  have p8 : 256 ^ 8 = 18446744073709551616 := rfl
  rw [u64w h0 (by omega)]
  have e : n = ((n.toNat : Nat) : Int) := by omega
  have h := number_f n.toNat w h1 h8 hn
  rw [← e] at h
  exact Ev.bind h (Ev.const rfl)
/-! ### Numbers from bytes -/
/-- So many bytes from the front: their number, what is left, whether they were there. -/
def takeS (w : Nat) (l : List UInt8) : Int × List UInt8 × Int := (if l.length < w then 0 else (num (l.take w) : Int), l.drop w, if l.length < w then 3 else 0)
def ba3 (x : Int × List UInt8 × Int) : Int × ByteArray × Int := (x.1, ba x.2.1, x.2.2)
theorem or_num (x : Nat) (b : Int) (hx : x < 72057594037927936) (h0 : 0 ≤ b) (h1 : b < 256) : Go.bits .or .u64 (IntKind.u64.wrap ((x : Int) * 256)) (IntKind.u64.wrap b) = ((x : Nat) : Int) * 256 + b := by
  rw [u64w (by omega) (by omega), u64w (by omega) (by omega)]
  exact bits_join .u64 64 (by decide) (fun n h0 h1 => u64w h0 (by simpa using h1)) 8 _ _ (by omega) (by omega) (by simp; omega) h0 (by simpa using h1) (by simp; omega)
theorem drop_nil_of {l : List UInt8} {w : Nat} (h : l.length < w) : l.drop w = [] := List.drop_eq_nil_of_le (by omega)
theorem take_num_snoc (l : List UInt8) (i : Nat) (h : i < l.length) : num (l.take (i + 1)) = num (l.take i) * 256 + (l[i]).toNat := by
  rw [List.take_succ_eq_append_getElem h, num_snoc]
theorem ext_end (a : ByteArray) (n : Nat) : a.extract n a.size = ba (a.data.toList.drop n) := by
  have hz := size_len a
  rw [Lib.extract_eq, List.take_of_length_le (by rw [List.length_drop]; omega)]
  rfl
theorem ext_front (a : ByteArray) (n : Nat) : a.extract 0 n = ba (a.data.toList.take n) := by
  rw [Lib.extract_eq]
  rfl
theorem tnum_l0 (a : ByteArray) (w : Nat) (hw : w ≤ 8) (hl : w ≤ a.data.toList.length) : ∀ d i : Nat, w = i + d →
    Ev (fun k => pack_TakeNumber.l0 k a (w : Int) (num (a.data.toList.take i) : Int) (w : Int) (i : Int)) ((num (a.data.toList.take w) : Int), ba (a.data.toList.drop w), 0)
  | 0, i, hi => by
    refine Ev.step (fun k => by rw [pack_TakeNumber.l0]) ?_
    have hz := size_len a
    obtain rfl : w = i := by omega
    refine Ev.ifn (by omega) (Ev.ifp (by omega) (Ev.ifp (by omega) (Ev.const ?_)))
    rw [Int.toNat_natCast, ext_end]
  | d + 1, i, hi => by
    refine Ev.step (fun k => by rw [pack_TakeNumber.l0]) ?_
    have hz := size_len a
    have hlt : i < a.data.toList.length := by omega
    have e3 : wrap64 ((i : Int) + 1) = ((i + 1 : Nat) : Int) := by rw [w64 (by omega) (by omega)]; omega
    have hn := num_lt i (a.data.toList.take i) (by rw [List.length_take]; omega)
    have hp : 256 ^ i ≤ 256 ^ 7 := Nat.pow_le_pow_right (by decide) (by omega)
    have p7 : 256 ^ 7 = 72057594037927936 := rfl
    have hb := (a.data.toList[i]).toNat_lt
    refine Ev.ifp (by omega) (Ev.ifp (by omega) (Ev.ifp (by omega) ?_))
    rw [bt_get a i hlt, or_num _ _ (by omega) (by omega) (by omega), e3]
    have ih := tnum_l0 a w hw hl d (i + 1) (by omega)
    rw [take_num_snoc _ _ hlt] at ih
    refine Ev.congr (fun k => ?_) ih
    congr 1
theorem tnum_f (a : ByteArray) (w : Nat) (h1 : 1 ≤ w) (h8 : w ≤ 8) : Ev (fun k => pack_TakeNumber.f k a (w : Int)) (ba3 (takeS w a.data.toList)) := by
  unfold pack_TakeNumber.f
  have hz := size_len a
  refine Ev.ifn (by omega) ?_
  rw [show decide ((w : Int) > 8) = false by simp; omega]
  refine Ev.step (fun k => by rw [pack_TakeNumber.j0]) ?_
  refine Ev.ifn (by decide) ?_
  by_cases h : a.data.toList.length < w
  · refine Ev.ifp (by omega) (Ev.const ?_)
    unfold ba3 takeS
    rw [if_pos h, if_pos h, drop_nil_of h]
    rfl
  · refine Ev.ifn (by omega) ?_
    refine Ev.val (tnum_l0 a w h8 (by omega) w 0 (by omega)) ?_
    unfold ba3 takeS
    rw [if_neg h, if_neg h]
theorem tknum_f (a : ByteArray) (bad : Bool) (w : Nat) (h1 : 1 ≤ w) (h8 : w ≤ 8) :
    Ev (fun k => inode_taker_number.f k a bad (w : Int)) ((takeS w a.data.toList).1, ba (a.data.toList.drop w), bad || decide (a.data.toList.length < w)) := by
  unfold inode_taker_number.f
  refine Ev.bind (tnum_f a w h1 h8) ?_
  unfold ba3 takeS
  cases bad
  · refine Ev.ifn (by decide) (Ev.const ?_)
    by_cases h : a.data.toList.length < w
    · simp only [if_pos h, decide_eq_true h]; rfl
    · simp only [if_neg h, decide_eq_false h]; rfl
  · exact Ev.ifp rfl (Ev.const (by simp))
/-- A text from the front. -/
def textS (l : List UInt8) : List UInt8 × List UInt8 × Int :=
  if l.length < 2 then ([], [], 3) else if (l.drop 2).length < num (l.take 2) then ([], [], 3) else ((l.drop 2).take (num (l.take 2)), (l.drop 2).drop (num (l.take 2)), 0)
theorem ttext_f (a : ByteArray) (hs : a.size ≤ 9223372036854775807) : Ev (fun k => pack_TakeText.f k a) (ba (textS a.data.toList).1, ba (textS a.data.toList).2.1, (textS a.data.toList).2.2) := by
  unfold pack_TakeText.f
  have hz := size_len a
  refine Ev.bind (tnum_f a 2 (by decide) (by decide)) ?_
  unfold ba3 takeS textS
  by_cases h : a.data.toList.length < 2
  · simp only [if_pos h]
    refine Ev.ifn (by decide) (Ev.step (fun k => by rw [pack_TakeText.j0]) ?_)
    exact Ev.ifn (by decide) (Ev.ifn (by decide) (Ev.const rfl))
  · simp only [if_neg h]
    refine Ev.ifp trivial ?_
    have hd : (a.data.toList.drop 2).length = a.data.toList.length - 2 := by simp
    rw [ba_size, u64w (by omega) (by omega)]
    by_cases hn : (a.data.toList.drop 2).length < num (a.data.toList.take 2)
    · rw [show decide (((num (a.data.toList.take 2) : Nat) : Int) > ((a.data.toList.drop 2).length : Int)) = true by simp only [decide_eq_true_eq]; omega, if_pos hn]
      refine Ev.step (fun k => by rw [pack_TakeText.j0]) ?_
      exact Ev.ifp rfl (Ev.const rfl)
    · rw [show decide (((num (a.data.toList.take 2) : Nat) : Int) > ((a.data.toList.drop 2).length : Int)) = false by simp only [decide_eq_false_iff_not]; omega, if_neg hn]
      refine Ev.step (fun k => by rw [pack_TakeText.j0]) ?_
      refine Ev.ifn (by decide) (Ev.ifp rfl (Ev.ifp (by omega) (Ev.ifp (by rw [ba_size]; omega) (Ev.const ?_))))
      rw [Int.toNat_natCast, ext_end, ext_front, ba_data]
theorem text_f (a : ByteArray) (hs : a.size ≤ 65535) : Ev (fun k => pack_Text.f k a) (ba (be 2 a.data.toList.length ++ a.data.toList), 0) := by
  unfold pack_Text.f
  have hz := size_len a
  rw [u64w (by omega) (by omega), hz]
  refine Ev.bind (number_f a.data.toList.length 2 (by decide) (by decide) (by rw [p2]; omega)) (Ev.ifp rfl ?_)
  refine Ev.ifp (by rw [ba_size, be_len]; omega) (Ev.const ?_)
  rw [← ba_app, data_ba]
/-! ### Inodes -/
theorem check_f (k m l s : Int) (a : ByteArray) (hs : 0 ≤ s ∧ s < 4294967296) : inode_Check.f k m l s a = some (if okN k l s a.data.toList = true then 0 else 4) := by
  unfold inode_Check.f okN
  rw [ByteArray.toList_eq]
  have hz := size_len a
  by_cases h1 : k = 1
  · rw [if_pos h1]; subst h1
    by_cases h2 : l = 1 <;> by_cases h3 : s = 0 <;> by_cases h4 : a.data.toList = [] <;> simp [h2, h3, h4]
  · rw [if_neg h1]
    by_cases h2 : k = 2
    · rw [if_pos h2]; subst h2
      by_cases h2 : l > 0 <;> by_cases h3 : s ≤ 65536 <;> by_cases h4 : a.data.toList = [] <;> simp [h2, h3, h4]
    · rw [if_neg h2]
      by_cases h3 : k = 3
      · rw [if_pos h3]; subst h3
        by_cases h4 : l > 0
        · rw [if_pos h4]
          by_cases h5 : a.data.toList = []
          · rw [if_pos h5]; simp [h5]
          · rw [if_neg h5]
            by_cases h6 : (a.size : Int) ≤ 64
            · rw [if_pos h6]
              have hc : strings_Contains.f a ⟨#[0]⟩ = some (decide (0 ∈ a.data.toList)) := by
                unfold strings_Contains.f
                rw [dif_pos (by rfl)]
                have hi := index_mem a.data.toList 0
                exact congrArg some (by rw [Bool.eq_iff_iff]; simpa using hi)
              rw [hc, Option.bind_some, w64 (by omega) (by omega)]
              have h6' : a.data.toList.length ≤ 64 := by omega
              by_cases h7 : 0 ∈ a.data.toList
              · rw [if_pos (by simpa using h7)]; simp [h7]
              · rw [if_neg (by simpa using h7)]
                by_cases h8 : s = (a.size : Int)
                · rw [if_pos h8]
                  have h8' : s = a.data.toList.length := by omega
                  rw [if_pos (by simp only [decide_eq_true_eq]; exact .inr (.inr ⟨trivial, by omega, h5, h6', h7, h8'⟩))]
                · rw [if_neg h8, if_neg (by simp only [decide_eq_true_eq]; rintro (h | h | h); · omega
                                            · omega
                                            · exact h8 (by omega))]
            · rw [if_neg h6, if_neg (by simp only [decide_eq_true_eq]; rintro (h | h | h); · omega
                                        · omega
                                        · exact h6 (by omega))]
        · rw [if_neg h4, if_neg (by simp only [decide_eq_true_eq]; omega)]
      · rw [if_neg h3, if_neg (by simp only [decide_eq_true_eq]; omega)]
theorem okN_size {k l s : Int} {t : List UInt8} (h : okN k l s t = true) : t.length ≤ 64 := by
  unfold okN at h
  rcases of_decide_eq_true h with h | h | h
  · rw [h.2.2.2]; decide
  · rw [h.2.2.2]; decide
  · exact h.2.2.2.1
theorem encode_f (k m l s : Int) (a : ByteArray) (hk : 0 ≤ k ∧ k < 256) (hm : 0 ≤ m ∧ m < 65536) (hl : 0 ≤ l ∧ l < 4294967296) (hs : 0 ≤ s ∧ s < 4294967296) :
    Ev (fun r => inode_Encode.f r k m l s a) (ba (encS k m l s a.data.toList).1, (encS k m l s a.data.toList).2) := by
  unfold inode_Encode.f encS
  have hz := size_len a
  rw [check_f k m l s a hs]
  refine Ev.bindc rfl ?_
  by_cases h : okN k l s a.data.toList = true
  · rw [if_pos h, if_pos h]
    have h64 := okN_size h
    refine Ev.ifp rfl (Ev.bind (text_f a (by omega)) (Ev.bind (num_f k 1 (by decide) (by decide) hk.1 (by rw [p1]; omega)) (Ev.bind (num_f m 2 (by decide) (by decide) hm.1 (by rw [p2]; omega)) ?_)))
    refine Ev.ifp (by simp only [ba_size, be_len]; omega) (Ev.bind (num_f l 4 (by decide) (by decide) hl.1 (by rw [p4]; omega)) ?_)
    refine Ev.ifp (by simp only [ba_app, ba_size, List.length_append, be_len]; omega) (Ev.bind (num_f s 4 (by decide) (by decide) hs.1 (by rw [p4]; omega)) ?_)
    refine Ev.ifp (by simp only [ba_app, ba_size, List.length_append, be_len]; omega) (Ev.ifp (by simp only [ba_app, ba_size, List.length_append, be_len]; omega) (Ev.const ?_))
    unfold enc
    simp only [ba_app, List.append_assoc]
  · rw [if_neg h, if_neg h]
    exact Ev.ifn (by decide) (Ev.const rfl)
def baI (x : Ino) : Int × Int × Int × Int × ByteArray × Int := (x.1, x.2.1, x.2.2.1, x.2.2.2.1, ba x.2.2.2.2.1, x.2.2.2.2.2)
theorem u16w {x : Int} (h0 : 0 ≤ x) (h1 : x < 65536) : IntKind.u16.wrap x = x := by
  simp only [IntKind.wrap, IntKind.bits, IntKind.signed]
  simp
  omega
theorem decode_f (a : ByteArray) (hs : a.size ≤ 9223372036854775807) : Ev (fun r => inode_Decode.f r a) (baI (decS a.data.toList)) := by
  unfold inode_Decode.f
  have hz := size_len a
  have d1 : (ba (a.data.toList.drop 1)).data.toList = a.data.toList.drop 1 := ba_data _
  have d2 : (ba ((a.data.toList.drop 1).drop 2)).data.toList = d3 a.data.toList := ba_data _
  have d4 : (ba ((d3 a.data.toList).drop 4)).data.toList = d7 a.data.toList := ba_data _
  have d5 : (ba ((d7 a.data.toList).drop 4)).data.toList = d11 a.data.toList := ba_data _
  have t1 := tknum_f a false 1 (by decide) (by decide)
  have t2 := fun b => tknum_f (ba (a.data.toList.drop 1)) b 2 (by decide) (by decide)
  rw [d1] at t2
  have t3 := fun b => tknum_f (ba ((a.data.toList.drop 1).drop 2)) b 4 (by decide) (by decide)
  rw [d2] at t3
  have t4 := fun b => tknum_f (ba ((d3 a.data.toList).drop 4)) b 4 (by decide) (by decide)
  rw [d4] at t4
  have hd11 : (d11 a.data.toList).length = a.data.toList.length - 11 := by unfold d11 d7 d3; simp only [List.length_drop]; omega
  have hd7 : (d7 a.data.toList).length = a.data.toList.length - 7 := by unfold d7 d3; simp only [List.length_drop]; omega
  have hd3 : (d3 a.data.toList).length = a.data.toList.length - 3 := by unfold d3; simp only [List.length_drop]; omega
  have hd1 : (a.data.toList.drop 1).length = a.data.toList.length - 1 := by simp
  have t5 := ttext_f (ba ((d7 a.data.toList).drop 4)) (by rw [ba_size]; show (d11 a.data.toList).length ≤ _; omega)
  rw [d5] at t5
  refine Ev.bind t1 (Ev.bind (t2 _) (Ev.bind (t3 _) (Ev.bind (t4 _) ?_)))
  unfold inode_taker_text.f
  have bad : (((false || decide (a.data.toList.length < 1)) || decide ((a.data.toList.drop 1).length < 2)) || decide ((d3 a.data.toList).length < 4) || decide ((d7 a.data.toList).length < 4)) = decide (a.data.toList.length < 11) := by
    rw [Bool.eq_iff_iff]
    simp only [Bool.false_or, Bool.or_eq_true, decide_eq_true_eq, hd7, hd3, hd1]
    omega
  simp only [bad]
  have none_ : ¬ (whole a.data.toList ∧ okN (f1 a.data.toList) (f3 a.data.toList) (f4 a.data.toList) (d13 a.data.toList) = true) → baI (decS a.data.toList) = (0, 0, 0, 0, ⟨#[]⟩, 4) := by
    intro h
    unfold decS
    rw [if_neg h]
    rfl
  by_cases h11 : a.data.toList.length < 11
  · have hn := none_ (fun h => by have := h.1.1; omega)
    rw [hn]
    rw [show decide (a.data.toList.length < 11) = true by simpa using h11]
    refine Ev.bind (Ev.bind t5 (Ev.ifp rfl (Ev.const rfl))) (Ev.ifp rfl (Ev.const rfl))
  · rw [show decide (a.data.toList.length < 11) = false by simpa using h11]
    refine Ev.bind (Ev.bind t5 (Ev.ifn (by decide) (Ev.const rfl))) ?_
    unfold textS
    by_cases h2 : (d11 a.data.toList).length < 2
    · simp only [if_pos h2]
      have hn := none_ (fun h => by have := h.1.1; omega)
      rw [hn]
      exact Ev.ifp rfl (Ev.const rfl)
    · simp only [if_neg h2]
      by_cases hn : ((d11 a.data.toList).drop 2).length < num ((d11 a.data.toList).take 2)
      · simp only [if_pos hn]
        have hn := none_ (fun h => by have := h.1.2; rw [List.length_drop] at hn; omega)
        rw [hn]
        exact Ev.ifp rfl (Ev.const rfl)
      · simp only [if_neg hn]
        refine Ev.ifn (by decide) ?_
        rw [ba_toList]
        by_cases hr : ((d11 a.data.toList).drop 2).drop (num ((d11 a.data.toList).take 2)) = []
        · refine Ev.ifp hr ?_
          have hlen : ((d11 a.data.toList).drop 2).length = num ((d11 a.data.toList).take 2) := by
            have := congrArg List.length hr
            rw [List.length_drop] at this
            simp at this hn
            simp
            omega
          have hw : whole a.data.toList := by
            refine ⟨by omega, ?_⟩
            rw [List.length_drop] at hlen
            omega
          have ht : ((d11 a.data.toList).drop 2).take (num ((d11 a.data.toList).take 2)) = d13 a.data.toList := by
            rw [← hlen, List.take_length]; rfl
          obtain ⟨r1, r2, r3, r4⟩ := f_range _ hw
          have e1 : (takeS 1 a.data.toList).1 = f1 a.data.toList := by unfold takeS; rw [if_neg (by omega)]; rfl
          have e2 : (takeS 2 (a.data.toList.drop 1)).1 = f2 a.data.toList := by unfold takeS; rw [if_neg (by omega)]; rfl
          have e3 : (takeS 4 (d3 a.data.toList)).1 = f3 a.data.toList := by unfold takeS; rw [if_neg (by omega)]; rfl
          have e4 : (takeS 4 (d7 a.data.toList)).1 = f4 a.data.toList := by unfold takeS; rw [if_neg (by omega)]; rfl
          rw [e1, e2, e3, e4, ht, u16w r2.1 r2.2, Int.emod_eq_of_lt r1.1 r1.2, Int.emod_eq_of_lt r3.1 r3.2, Int.emod_eq_of_lt r4.1 r4.2]
          refine Ev.bindc (check_f _ _ _ _ _ r4) ?_
          rw [ba_data]
          by_cases hok : okN (f1 a.data.toList) (f3 a.data.toList) (f4 a.data.toList) (d13 a.data.toList) = true
          · rw [if_pos hok]
            refine Ev.ifp rfl (Ev.const ?_)
            unfold decS
            rw [if_pos ⟨hw, hok⟩]
            rfl
          · rw [if_neg hok, none_ (fun h => hok h.2)]
            exact Ev.ifn (by decide) (Ev.const rfl)
        · rw [none_ (fun h => hr (List.drop_eq_nil_of_le (by have := h.1.2; rw [List.length_drop]; omega)))]
          exact Ev.ifn hr (Ev.const rfl)
end Go.Proofs.YthbljhmjppjcjaaGreatDoor.Z
end

section
/- What the functions on keys come to. -/
namespace Go.Proofs.YthbljhmjppjcjaaGreatDoor.Z
open Go.RowKit Go.Proofs.YthbljhmjppjcjaaGreatDoorW.PrintWords Go.Proofs.YthbljhmjppjcjaaGreatDoorW.PrintLast Go.Proofs.YthbljhmjppjcjaaGreatDoorW.PrintMore Go.Proofs.YthbljhmjppjcjaaGreatDoor.PM
set_option linter.unusedVariables false
theorem right_jt (x3 : Bool) (x8 : Int) (y0 y1 : Int) (a : ByteArray) (c : Int) : Ev (fun r => inode_right.j0 r x3 x8 true y0 y1 a c) (x3 && (nameL a.data.toList && c == 0)) := by
  refine Ev.step (fun k => by rw [inode_right.j0]) ?_
  refine Ev.ifp rfl ?_
  cases x3
  · exact Ev.ifn (by decide) (Ev.const rfl)
  · refine Ev.ifp rfl (Ev.bindc (name_f a) ?_)
    by_cases hn : nameL a.data.toList = true
    · exact Ev.ifp hn (Ev.const (by simp [hn]))
    · exact Ev.ifn hn (Ev.const (by simp [hn]))
theorem right_j3 (x3 : Bool) (y0 y1 : Int) (a : ByteArray) (c : Int) : Ev (fun r => inode_right.j0 r x3 3 false y0 y1 a c) (x3 && (decide (a.data.toList = []) && decide (c < 512))) := by
  refine Ev.step (fun k => by rw [inode_right.j0]) ?_
  refine Ev.ifn (by decide) (Ev.ifp rfl ?_)
  cases x3
  · exact Ev.ifn (by decide) (Ev.const rfl)
  · refine Ev.ifp rfl ?_
    rw [ByteArray.toList_eq]
    by_cases hn : a.data.toList = []
    · exact Ev.ifp hn (Ev.const (by simp [hn]))
    · exact Ev.ifn hn (Ev.const (by simp [hn]))
theorem right_jn (x3 : Bool) (x8 : Int) (h8 : ¬ x8 = 3) (y0 y1 : Int) (a : ByteArray) (c : Int) : Ev (fun r => inode_right.j0 r x3 x8 false y0 y1 a c) false := by
  refine Ev.step (fun k => by rw [inode_right.j0]) ?_
  exact Ev.ifn (by decide) (Ev.ifn h8 (Ev.const rfl))
theorem right_f (k i : Int) (a : ByteArray) (c : Int) : Ev (fun r => inode_right.f r k i a c) (rightK k i a.data.toList c) := by
  unfold inode_right.f
  have key : ∀ b : Bool, (b = true ↔ (0 < i ∧ (k = 1 ∧ a.data.toList = [] ∧ c = 0 ∨ (k = 2 ∨ k = 4) ∧ nameL a.data.toList = true ∧ c = 0 ∨ k = 3 ∧ a.data.toList = [] ∧ c < 512))) → b = rightK k i a.data.toList c := fun b h => by
    unfold rightK
    rw [Bool.eq_iff_iff, h, decide_eq_true_eq]
  by_cases h1 : k = 1
  · refine Ev.ifp h1 ?_
    subst h1
    by_cases hi : i > 0
    · refine Ev.ifp hi ?_
      rw [ByteArray.toList_eq]
      by_cases hn : a.data.toList = []
      · refine Ev.ifp hn (Ev.const (congrArg some (key _ ?_)))
        rw [beq_iff_eq]
        exact ⟨fun h => ⟨hi, .inl ⟨rfl, hn, h⟩⟩, fun h => by omega⟩
      · refine Ev.ifn hn (Ev.const (congrArg some (key _ ?_)))
        refine ⟨fun h => absurd h (by decide), fun h => ?_⟩
        rcases h.2 with h | h | h
        · exact absurd h.2.1 hn
        · omega
        · omega
    · refine Ev.ifn hi (Ev.const (congrArg some (key _ ?_)))
      exact ⟨fun h => absurd h (by decide), fun h => absurd h.1 hi⟩
  · refine Ev.ifn h1 ?_
    by_cases h2 : k = 2
    · refine Ev.ifp h2 ?_
      subst h2
      refine Ev.val (right_jt _ _ _ _ _ _) (key _ ?_)
      simp only [decide_eq_true_eq, Bool.and_eq_true, beq_iff_eq]
      refine ⟨fun h => ⟨h.1, .inr (.inl ⟨.inl trivial, h.2.1, h.2.2⟩)⟩, fun h => ⟨h.1, ?_⟩⟩
      rcases h.2 with h | h | h
      · omega
      · exact h.2
      · omega
    · refine Ev.ifn h2 ?_
      by_cases h4 : k = 4
      · subst h4
        refine Ev.val (right_jt _ _ _ _ _ _) (key _ ?_)
        simp only [decide_eq_true_eq, Bool.and_eq_true, beq_iff_eq]
        refine ⟨fun h => ⟨h.1, .inr (.inl ⟨.inr trivial, h.2.1, h.2.2⟩)⟩, fun h => ⟨h.1, ?_⟩⟩
        rcases h.2 with h | h | h
        · omega
        · exact h.2
        · omega
      · rw [show (k == 4) = false by simpa using h4]
        by_cases h3 : k = 3
        · subst h3
          refine Ev.val (right_j3 _ _ _ _ _) (key _ ?_)
          simp only [decide_eq_true_eq, Bool.and_eq_true]
          refine ⟨fun h => ⟨h.1, .inr (.inr ⟨trivial, h.2.1, h.2.2⟩)⟩, fun h => ⟨h.1, ?_⟩⟩
          rcases h.2 with h | h | h
          · omega
          · omega
          · exact h.2
        · refine Ev.val (right_jn _ _ h3 _ _ _ _) (key _ ?_)
          exact ⟨fun h => absurd h (by decide), fun h => by omega⟩
theorem letterOf_lett (k : Int) : (letterOf k = 0 ↔ lett k = []) ∧ letterB k = ba (lett k) := by
  unfold letterOf lett letterB
  by_cases h1 : k = 1
  · subst h1; exact ⟨by decide, rfl⟩
  · rw [if_neg h1, if_neg h1, if_neg h1]
    by_cases h2 : k = 2
    · subst h2; exact ⟨by decide, rfl⟩
    · rw [if_neg h2, if_neg h2, if_neg h2]
      by_cases h3 : k = 3
      · subst h3; exact ⟨by decide, rfl⟩
      · rw [if_neg h3, if_neg h3, if_neg h3]
        by_cases h4 : k = 4
        · subst h4; exact ⟨by decide, rfl⟩
        · rw [if_neg h4, if_neg h4, if_neg h4]
          exact ⟨by simp, rfl⟩
theorem prefix_f (k i : Int) (hk : 0 ≤ k) (hi : 0 ≤ i ∧ i < 4294967296) : Ev (fun r => inode_Prefix.f r k i) (ba (prefL k i)) := by
  unfold inode_Prefix.f prefL
  obtain ⟨h1, h2⟩ := letterOf_lett k
  refine Ev.ifp hk ?_
  by_cases h : letterOf k = 0
  · rw [if_pos (h1.1 h)]
    exact Ev.ifp h (Ev.const rfl)
  · rw [if_neg (fun e => h (h1.2 e))]
    refine Ev.ifn h (Ev.bind (num_f i 4 (by decide) (by decide) hi.1 (by rw [p4]; omega)) (Ev.ifp (by rw [ba_size, be_len]; omega) (Ev.const ?_)))
    rw [h2, ba_app]
theorem rightK_size {k i : Int} {nm : List UInt8} {c : Int} (h : rightK k i nm c = true) : nm.length ≤ 24 ∧ c < 512 := by
  unfold rightK at h
  rcases (of_decide_eq_true h).2 with h1 | h1 | h1
  · rw [h1.2.1]; exact ⟨by decide, by omega⟩
  · exact ⟨(nameL_iff.1 h1.2.1).2.1, by omega⟩
  · rw [h1.2.1]; exact ⟨by decide, by omega⟩
theorem key_f (k i : Int) (a : ByteArray) (c : Int) (hk : 0 ≤ k) (hi : 0 ≤ i ∧ i < 4294967296) (hc : 0 ≤ c) :
    Ev (fun r => inode_Key.f r k i a c) (ba (keyS k i a.data.toList c).1, (keyS k i a.data.toList c).2) := by
  unfold inode_Key.f keyS
  have hz := size_len a
  refine Ev.bind (right_f k i a c) ?_
  by_cases h : rightK k i a.data.toList c = true
  · rw [if_pos h]
    have hl := prefL_len (i := i) (lett_ne h)
    obtain ⟨hn, hc2⟩ := rightK_size h
    refine Ev.ifp h (Ev.bind (prefix_f k i hk hi) ?_)
    unfold keyL
    by_cases h3 : k = 3
    · rw [if_pos h3]
      refine Ev.ifp h3 (Ev.bind (num_f c 4 (by decide) (by decide) hc (by rw [p4]; omega)) (Ev.ifp (by rw [ba_size, ba_size, be_len]; omega) (Ev.const ?_)))
      rw [ba_app]
    · rw [if_neg h3]
      refine Ev.ifn h3 (Ev.ifp (by rw [ba_size]; omega) (Ev.const ?_))
      rw [← ba_app, data_ba]
  · rw [if_neg h]
    exact Ev.ifn h (Ev.const rfl)
/-! ### Parse -/
def baK (x : KeyT) : Int × Int × ByteArray × Int × Int := (x.1, x.2.1, ba x.2.2.1, x.2.2.2.1, x.2.2.2.2)
theorem parse_round (a : ByteArray) (x d c1 c2 c3 c4 K : Int) (hx : 0 ≤ x ∧ x < 5) (hs : 0 < a.size) (hd : d = 0 ∨ d = 1 ∧ c1 = 105 ∧ c2 = 100 ∧ c3 = 99 ∧ c4 = 120) {r : Int × Int × ByteArray × Int × Int}
    (h : Ev (fun k => inode_Parse.l0 k a (x + 1) 1 0 0 0 105 100 99 120 (if letterOf x = bt a 0 then x else K) 0 ⟨#[]⟩ 0) r) :
    Ev (fun k => inode_Parse.l0 k a x d 0 0 0 c1 c2 c3 c4 K 0 ⟨#[]⟩ 0) r := by
  refine Ev.step (fun k => by rw [inode_Parse.l0]) ?_
  have hf : inode_letters_letter.f d 0 0 0 c1 c2 c3 c4 x = some (letterOf x, 1, 0, 0, 0, 105, 100, 99, 120) := by
    unfold inode_letters_letter.f
    rw [if_pos ⟨hx.1, rfl, rfl, hd⟩]
  have he : (x + 1) % 256 = x + 1 := by omega
  refine Ev.ifp hx.2 (Ev.bindc hf (Ev.ifp (by omega) ?_))
  rw [he]
  by_cases hb : letterOf x = bt a 0
  · rw [if_pos hb] at h
    exact Ev.ifp hb h
  · rw [if_neg hb] at h
    exact Ev.ifn hb h
theorem parse_end (a : ByteArray) (K d c1 c2 c3 c4 : Int) (hK : K = g1 a.data.toList) (h5 : ¬ a.data.toList.length < 5) :
    Ev (fun k => inode_Parse.l0 k a 5 d 0 0 0 c1 c2 c3 c4 K 0 ⟨#[]⟩ 0) (baK (parsS a.data.toList)) := by
  refine Ev.step (fun k => by rw [inode_Parse.l0]) ?_
  have hz := size_len a
  have hr := g2_range h5
  have t1 := tknum_f (a.extract 1 a.size) false 4 (by decide) (by decide)
  have e0 : (a.extract 1 a.size).data.toList = a.data.toList.drop 1 := by rw [ext_end, ba_data]
  rw [e0] at t1
  have el : (a.data.toList.drop 1).length = a.data.toList.length - 1 := by simp
  have e1 : (takeS 4 (a.data.toList.drop 1)).1 = g2 a.data.toList := by unfold takeS; rw [if_neg (by omega)]; rfl
  have e2 : (false || decide ((a.data.toList.drop 1).length < 4)) = false := by simp only [Bool.false_or, decide_eq_false_iff_not]; omega
  rw [e1, e2] at t1
  refine Ev.ifn (by omega) (Ev.ifp (by omega) (Ev.bind t1 ?_))
  rw [Int.emod_eq_of_lt hr.1 hr.2]
  have e5 : (a.data.toList.drop 1).drop 4 = r5 a.data.toList := rfl
  simp only [e5]
  have ez : baK (0, 0, [], 0, 4) = (0, 0, ⟨#[]⟩, 0, 4) := rfl
  have lk : 0 ≤ g1 a.data.toList := by unfold g1 kindOf; repeat' split <;> omega
  by_cases h3 : K = 3
  · refine Ev.ifp h3 ?_
    have t2 := tknum_f (ba (r5 a.data.toList)) false 4 (by decide) (by decide)
    rw [ba_data] at t2
    refine Ev.bind t2 ?_
    have hg3 : g1 a.data.toList = 3 := by omega
    have hw := key_whole h5 (by rw [hg3]; decide)
    simp only [Bool.false_or]
    have hn0 : 0 ≤ (takeS 4 (r5 a.data.toList)).1 ∧ (takeS 4 (r5 a.data.toList)).1 < 4294967296 := by
      unfold takeS
      by_cases h4 : (r5 a.data.toList).length < 4
      · simp only [if_pos h4]; omega
      · simp only [if_neg h4]
        have := num_lt 4 ((r5 a.data.toList).take 4) (by rw [List.length_take]; omega)
        rw [p4] at this
        omega
    have bad : ¬ ((r5 a.data.toList).length = 4 ∧ rightK 3 (g2 a.data.toList) [] (num (r5 a.data.toList)) = true) → baK (parsS a.data.toList) = (0, 0, (⟨#[]⟩ : ByteArray), 0, 4) := by
      intro h
      unfold parsS
      rw [if_neg h5, if_pos hg3, if_neg h]
      rfl
    have good : (r5 a.data.toList).length = 4 ∧ rightK 3 (g2 a.data.toList) [] (num (r5 a.data.toList)) = true → baK (parsS a.data.toList) = (3, g2 a.data.toList, (⟨#[]⟩ : ByteArray), (num (r5 a.data.toList) : Int), 0) := by
      intro h
      unfold parsS
      rw [if_neg h5, if_pos hg3, if_pos h]
      rfl
    rw [Int.emod_eq_of_lt hn0.1 hn0.2]
    refine Ev.bind (key_f K (g2 a.data.toList) ⟨#[]⟩ _ (by omega) hr hn0.1) ?_
    by_cases h4 : (r5 a.data.toList).length < 4
    · rw [bad (fun h => by have := h.1; omega)]
      exact Ev.ifp (by simpa using h4) (Ev.const rfl)
    · refine Ev.ifn (by simpa using h4) ?_
      have en : (takeS 4 (r5 a.data.toList)).1 = (num ((r5 a.data.toList).take 4) : Int) := by unfold takeS; rw [if_neg h4]
      rw [en, h3]
      have e0 : (⟨#[]⟩ : ByteArray).data.toList = [] := rfl
      rw [e0]
      by_cases hok : rightK 3 (g2 a.data.toList) [] (num ((r5 a.data.toList).take 4)) = true
      · have hk : keyS 3 (g2 a.data.toList) [] (num ((r5 a.data.toList).take 4)) = (keyL 3 (g2 a.data.toList) [] (num ((r5 a.data.toList).take 4)), 0) := by unfold keyS; rw [if_pos hok]
        rw [hk]
        refine Ev.ifp rfl ?_
        have ek : (ba (keyL 3 (g2 a.data.toList) [] (num ((r5 a.data.toList).take 4)))).toList = prefL 3 (g2 a.data.toList) ++ (r5 a.data.toList).take 4 := by
          rw [ba_toList]
          unfold keyL
          rw [if_pos rfl, Int.toNat_natCast, be_num 4 _ (by rw [List.length_take]; omega)]
        have ea : a.toList = prefL 3 (g2 a.data.toList) ++ r5 a.data.toList := by rw [ByteArray.toList_eq, ← hg3, hw]
        by_cases h44 : (r5 a.data.toList).length = 4
        · have et : (r5 a.data.toList).take 4 = r5 a.data.toList := List.take_of_length_le (by omega)
          rw [et] at hok ek ⊢
          rw [good ⟨h44, hok⟩]
          exact Ev.ifp (by rw [ek, ea]) (Ev.const rfl)
        · rw [bad (fun h => h44 h.1)]
          refine Ev.ifn (fun h => ?_) (Ev.const rfl)
          have h := h
          simp only at h
          rw [ek, ea] at h
          have := congrArg List.length (List.append_cancel_left h)
          rw [List.length_take] at this
          omega
      · have hk : keyS 3 (g2 a.data.toList) [] (num ((r5 a.data.toList).take 4)) = ([], 4) := by unfold keyS; rw [if_neg hok]
        rw [hk, bad (fun h => by rw [List.take_of_length_le (by omega)] at hok; exact hok h.2)]
        exact Ev.ifn (by decide) (Ev.const rfl)
  · refine Ev.ifn h3 ?_
    have hg3 : ¬ g1 a.data.toList = 3 := by omega
    have hk := key_f K (g2 a.data.toList) (ba (r5 a.data.toList)) 0 (by omega) hr (by omega)
    rw [ba_data] at hk
    refine Ev.bind hk (Ev.ifn (by decide) ?_)
    rw [hK]
    by_cases hok : rightK (g1 a.data.toList) (g2 a.data.toList) (r5 a.data.toList) 0 = true
    · have hp : parsS a.data.toList = (g1 a.data.toList, g2 a.data.toList, r5 a.data.toList, 0, 0) := by unfold parsS; rw [if_neg h5, if_neg hg3, if_pos hok]
      have hk : keyS (g1 a.data.toList) (g2 a.data.toList) (r5 a.data.toList) 0 = (keyL (g1 a.data.toList) (g2 a.data.toList) (r5 a.data.toList) 0, 0) := by unfold keyS; rw [if_pos hok]
      rw [hp, hk]
      refine Ev.ifp rfl (Ev.ifp ?_ (Ev.const rfl))
      rw [ba_toList]
      unfold keyL
      rw [if_neg hg3, key_whole h5 (right_kind hok), ByteArray.toList_eq]
    · have hp : parsS a.data.toList = (0, 0, [], 0, 4) := by unfold parsS; rw [if_neg h5, if_neg hg3, if_neg hok]
      have hk : keyS (g1 a.data.toList) (g2 a.data.toList) (r5 a.data.toList) 0 = ([], 4) := by unfold keyS; rw [if_neg hok]
      rw [hp, hk]
      exact Ev.ifn (by decide) (Ev.const rfl)
theorem parse_f (a : ByteArray) (hs : a.size ≤ 9223372036854775807) : Ev (fun k => inode_Parse.f k a) (baK (parsS a.data.toList)) := by
  unfold inode_Parse.f
  have hz := size_len a
  by_cases h5 : a.data.toList.length < 5
  · refine Ev.ifp (by omega) (Ev.const ?_)
    unfold parsS
    rw [if_pos h5]
    rfl
  · refine Ev.ifn (by omega) ?_
    have hd : ∀ d c1 c2 c3 c4 : Int, d = 1 ∧ c1 = 105 ∧ c2 = 100 ∧ c3 = 99 ∧ c4 = 120 → (d = 0 ∨ d = 1 ∧ c1 = 105 ∧ c2 = 100 ∧ c3 = 99 ∧ c4 = 120) := fun _ _ _ _ _ h => .inr h
    refine parse_round a 1 0 0 0 0 0 0 (by decide) (by omega) (.inl rfl) ?_
    refine parse_round a (1 + 1) 1 105 100 99 120 _ (by decide) (by omega) (hd _ _ _ _ _ ⟨rfl, rfl, rfl, rfl, rfl⟩) ?_
    refine parse_round a (1 + 1 + 1) 1 105 100 99 120 _ (by decide) (by omega) (hd _ _ _ _ _ ⟨rfl, rfl, rfl, rfl, rfl⟩) ?_
    refine parse_round a (1 + 1 + 1 + 1) 1 105 100 99 120 _ (by decide) (by omega) (hd _ _ _ _ _ ⟨rfl, rfl, rfl, rfl, rfl⟩) ?_
    refine parse_end a _ 1 105 100 99 120 ?_ h5
    have hlt : 0 < a.data.toList.length := by omega
    have hb := bt_get a 0 hlt
    simp only [Int.ofNat_zero] at hb
    rw [show bt a 0 = ((a.data.toList[0]).toNat : Int) from hb]
    have hg : g1 a.data.toList = kindOf (a.data.toList[0]) := by
      unfold g1
      congr 1
      match a.data.toList, hlt with
      | b :: _, _ => rfl
    rw [hg]
    generalize a.data.toList[0] = b
    have q := fun n (hn : n < 256) => byte_eq b n hn
    have q1 := q 105 (by decide)
    have q2 := q 100 (by decide)
    have q3 := q 99 (by decide)
    have q4 := q 120 (by decide)
    have l1 : letterOf 1 = 105 := rfl
    have l2 : letterOf (1 + 1) = 100 := rfl
    have l3 : letterOf (1 + 1 + 1) = 99 := rfl
    have l4 : letterOf (1 + 1 + 1 + 1) = 120 := rfl
    rw [l1, l2, l3, l4]
    unfold kindOf
    by_cases h1 : b = 105
    · subst h1; rfl
    · by_cases h2 : b = 100
      · subst h2; rfl
      · by_cases h3 : b = 99
        · subst h3; rfl
        · by_cases h4 : b = 120
          · subst h4; rfl
          · rw [if_neg h1, if_neg h2, if_neg h3, if_neg h4, if_neg (fun e => h4 (q4.1 e.symm)), if_neg (fun e => h3 (q3.1 e.symm)), if_neg (fun e => h2 (q2.1 e.symm)), if_neg (fun e => h1 (q1.1 e.symm))]
end Go.Proofs.YthbljhmjppjcjaaGreatDoor.Z
end

section
/- Lists of items, over lists: right ones, what changes make of one, what the changes between two are. -/
namespace Go.Proofs.YthbljhmjppjcjaaGreatDoor.Z
open Go.RowKit Go.Proofs.YthbljhmjppjcjaaGreatDoorW.PrintWords Go.Proofs.YthbljhmjppjcjaaGreatDoorW.PrintLast
set_option linter.unusedVariables false
abbrev It := S71
abbrev Ch := S41
abbrev key (x : It) : List UInt8 := x.f0.toList
abbrev ck (c : Ch) : List UInt8 := c.f0.toList
def okK (k : ByteArray) : Bool := decide (k.toList ≠ [] ∧ k.size ≤ 48)
def okI (x : It) : Bool := okK x.f0 && decide (x.f1.size ≤ 160)
def okF : Option It → List It → Bool
  | _, [] => true
  | p, x :: l => okI x && (match p with | none => true | some q => Op.bytesLess (key q) (key x)) && okF (some x) l
def okL (l : List It) : Bool := okF none l
def Asc (l : List It) : Prop := l.Pairwise (fun x y => Op.bytesLess (key x) (key y) = true)
theorem okF_iff : ∀ (l : List It) (p : Option It), okF p l = true ↔ (∀ x ∈ l, okI x = true) ∧ Asc (p.toList ++ l)
  | [], none => by simp [okF, Asc]
  | [], some q => by simp [okF, Asc]
  | x :: l, none => by
    have ih := okF_iff l (some x)
    simp only [okF, Bool.and_true, Bool.and_eq_true, ih, Option.toList, List.nil_append, List.mem_cons, forall_eq_or_imp, List.singleton_append]
    constructor
    · rintro ⟨a, b, c⟩; exact ⟨⟨a, b⟩, c⟩
    · rintro ⟨⟨a, b⟩, c⟩; exact ⟨a, b, c⟩
  | x :: l, some q => by
    have ih := okF_iff l (some x)
    simp only [okF, Bool.and_eq_true, ih, Option.toList, List.mem_cons, forall_eq_or_imp, List.singleton_append]
    constructor
    · rintro ⟨⟨a, d⟩, b, c⟩
      refine ⟨⟨a, b⟩, ?_⟩
      unfold Asc at c ⊢
      refine List.pairwise_cons.2 ⟨fun y hy => ?_, c⟩
      rcases List.mem_cons.1 hy with rfl | hy
      · exact d
      · exact bl_trans d ((List.pairwise_cons.1 c).1 y hy)
    · rintro ⟨⟨a, b⟩, c⟩
      unfold Asc at c ⊢
      have := List.pairwise_cons.1 c
      exact ⟨⟨a, this.1 x (List.mem_cons_self ..)⟩, b, this.2⟩
theorem okL_iff (l : List It) : okL l = true ↔ (∀ x ∈ l, okI x = true) ∧ Asc l := by
  unfold okL; rw [okF_iff]; simp
theorem Asc.cons {x : It} {l : List It} (h : Asc (x :: l)) : (∀ y ∈ l, Op.bytesLess (key x) (key y) = true) ∧ Asc l := List.pairwise_cons.1 h
theorem Asc.parts {a b : List It} (h : Asc (a ++ b)) : Asc a ∧ Asc b ∧ ∀ x ∈ a, ∀ y ∈ b, Op.bytesLess (key x) (key y) = true := List.pairwise_append.1 h
theorem Asc.app {a b : List It} (h1 : Asc a) (h2 : Asc b) (h3 : ∀ x ∈ a, ∀ y ∈ b, Op.bytesLess (key x) (key y) = true) : Asc (a ++ b) := List.pairwise_append.2 ⟨h1, h2, h3⟩
def okc (c : Ch) : Bool := okK c.f0 && decide (c.f2.size ≤ 160) && (c.f1 || decide (c.f2.toList = []))
def okC (l : List Ch) : Bool := l.all okc
-- where a key is
def lo (l : List It) (k : List UInt8) : List It := l.takeWhile (fun x => Op.bytesLess (key x) k)
def up (l : List It) (k : List UInt8) : List It := l.dropWhile (fun x => Op.bytesLess (key x) k)
def fnd (l : List It) (k : List UInt8) : Bool := match up l k with | x :: _ => key x == k | [] => false
def hi (l : List It) (k : List UInt8) : List It := (up l k).dropWhile (fun x => key x == k)
def new_ (c : Ch) : List It := if c.f1 then [⟨c.f0, c.f2⟩] else []
def put (l : List It) (c : Ch) : List It := lo l (ck c) ++ new_ c ++ hi l (ck c)
theorem lo_up (l : List It) (k : List UInt8) : lo l k ++ up l k = l := List.takeWhile_append_dropWhile
theorem lo_mem {l : List It} {k : List UInt8} : ∀ x ∈ lo l k, Op.bytesLess (key x) k = true := by
  unfold lo
  induction l with
  | nil => simp
  | cons y l ih =>
    intro x hx
    rw [List.takeWhile_cons] at hx
    split at hx
    next h => rcases List.mem_cons.1 hx with rfl | hx
              · exact h
              · exact ih x hx
    next h => cases hx
theorem up_head {l : List It} {k : List UInt8} {x : It} {r : List It} (h : up l k = x :: r) : Op.bytesLess (key x) k = false := by
  unfold up at h
  induction l with
  | nil => simp at h
  | cons y l ih =>
    rw [List.dropWhile_cons] at h
    split at h
    next => exact ih h
    next hn => injection h with h1 _; subst h1; simpa using hn
theorem up_ge {l : List It} (ha : Asc l) {k : List UInt8} : ∀ x ∈ up l k, Op.bytesLess (key x) k = false := by
  intro x hx
  cases hu : up l k with
  | nil => rw [hu] at hx; cases hx
  | cons y r =>
    have h1 := up_head hu
    rw [hu] at hx
    rcases List.mem_cons.1 hx with rfl | hx
    · exact h1
    · have h2 : Asc (lo l k ++ y :: r) := by rw [← hu, lo_up]; exact ha
      have h3 := (h2.parts.2.1.cons).1 x hx
      cases hb : Op.bytesLess (key x) k
      · rfl
      · have := bl_trans h3 hb; rw [this] at h1; cases h1
/-- The three parts of a right list about a key. -/
theorem parts_of {l : List It} (ha : Asc l) (k : List UInt8) : ∃ mid, l = lo l k ++ mid ++ hi l k ∧ up l k = mid ++ hi l k ∧ (∀ x ∈ lo l k, Op.bytesLess (key x) k = true) ∧ (∀ x ∈ hi l k, Op.bytesLess k (key x) = true) ∧
    ((mid = [] ∧ fnd l k = false) ∨ (∃ x, mid = [x] ∧ key x = k ∧ fnd l k = true)) := by
  cases hu : up l k with
  | nil =>
    have hh : hi l k = [] := by unfold hi; rw [hu]; rfl
    refine ⟨[], ?_, by rw [hh]; rfl, lo_mem, by rw [hh]; simp, .inl ⟨rfl, by unfold fnd; rw [hu]⟩⟩
    have := lo_up l k
    rw [hu] at this
    rw [hh]; simpa using this.symm
  | cons y r =>
    have h2 : Asc (lo l k ++ y :: r) := by rw [← hu, lo_up]; exact ha
    have hr := (h2.parts.2.1.cons).1
    have hy := up_head hu
    have hl : l = lo l k ++ y :: r := by rw [← hu, lo_up]
    by_cases he : key y = k
    · have hd : r.dropWhile (fun x => key x == k) = r := by
        cases r with
        | nil => rfl
        | cons z r =>
          have hz := hr z (List.mem_cons_self ..)
          have : (key z == k) = false := by rw [beq_eq_false_iff_ne]; rintro hk; rw [← he] at hk; exact bl_ne hz hk.symm
          rw [List.dropWhile_cons]; simp [this]
      have hh : hi l k = r := by
        unfold hi; rw [hu, List.dropWhile_cons]
        simp only [he, beq_self_eq_true, if_true]
        exact hd
      refine ⟨[y], by rw [hh]; simpa using hl, by rw [hh]; rfl, lo_mem, ?_, .inr ⟨y, rfl, he, by unfold fnd; rw [hu]; simpa using he⟩⟩
      rw [hh]; intro x hx; rw [← he]; exact hr x hx
    · have hk : Op.bytesLess k (key y) = true := by
        rcases bl_total (key y) k with h | h | h
        · exact absurd h he
        · have h' : Op.bytesLess (key y) k = true := h
          rw [hy] at h'; cases h'
        · exact h
      have hb : (key y == k) = false := by rw [beq_eq_false_iff_ne]; exact he
      have hh : hi l k = y :: r := by unfold hi; rw [hu, List.dropWhile_cons]; simp [hb]
      refine ⟨[], by rw [hh]; simpa using hl, by rw [hh]; rfl, lo_mem, ?_, .inl ⟨rfl, by unfold fnd; rw [hu]; exact hb⟩⟩
      rw [hh]; intro x hx
      rcases List.mem_cons.1 hx with rfl | hx
      · exact hk
      · exact bl_trans hk (hr x hx)
theorem inew_ok {c : Ch} (hc : okc c = true) : ∀ x ∈ new_ c, okI x = true := by
  intro x hx
  unfold new_ at hx
  split at hx
  next => rw [List.mem_singleton.1 hx]; unfold okc at hc; unfold okI; simp only [Bool.and_eq_true] at hc ⊢; exact ⟨hc.1.1, hc.1.2⟩
  next => cases hx
theorem inew_key {c : Ch} : ∀ x ∈ new_ c, key x = ck c := by
  intro x hx
  unfold new_ at hx
  split at hx
  next => rw [List.mem_singleton.1 hx]
  next => cases hx
theorem new_asc (c : Ch) : Asc (new_ c) := by
  unfold new_ Asc
  split <;> simp
theorem put_ok {l : List It} {c : Ch} (hl : okL l = true) (hc : okc c = true) : okL (put l c) = true := by
  rw [okL_iff] at hl ⊢
  obtain ⟨h1, h2⟩ := hl
  obtain ⟨mid, hp, hu, hlo, hhi, hm⟩ := parts_of h2 (ck c)
  have hA : Asc (lo l (ck c) ++ (mid ++ hi l (ck c))) := by rw [← List.append_assoc, ← hp]; exact h2
  have hmem : ∀ x, x ∈ lo l (ck c) ∨ x ∈ hi l (ck c) → x ∈ l := by
    intro x hx; rw [hp]; simp only [List.mem_append]; rcases hx with hx | hx
    · exact .inl (.inl hx)
    · exact .inr hx
  refine ⟨fun x hx => ?_, ?_⟩
  · unfold put at hx
    simp only [List.mem_append] at hx
    rcases hx with (hx | hx) | hx
    · exact h1 x (hmem x (.inl hx))
    · exact inew_ok hc x hx
    · exact h1 x (hmem x (.inr hx))
  · unfold put
    rw [List.append_assoc]
    refine hA.parts.1.app ((new_asc c).app hA.parts.2.1.parts.2.1 fun x hx y hy => by rw [inew_key x hx]; exact hhi y hy) fun x hx y hy => ?_
    rcases List.mem_append.1 hy with hy | hy
    · rw [inew_key y hy]; exact hlo x hx
    · exact hA.parts.2.2 x hx y (List.mem_append_right _ hy)
theorem put_len (l : List It) (c : Ch) : (put l c).length ≤ l.length + 1 := by
  have h1 := congrArg List.length (lo_up l (ck c))
  rw [List.length_append] at h1
  have h2 : (hi l (ck c)).length ≤ (up l (ck c)).length := List.Sublist.length_le (List.dropWhile_sublist _)
  unfold put new_
  simp only [List.length_append]
  split <;> simp <;> omega
-- what is there
def look (l : List It) (k : List UInt8) : Option ByteArray := (l.find? (fun x => key x == k)).map (·.f1)
theorem look_app (a b : List It) (k : List UInt8) : look (a ++ b) k = (look a k).or (look b k) := by
  unfold look; rw [List.find?_append]; cases h : a.find? (fun x => key x == k) <;> simp
theorem look_none {l : List It} {k : List UInt8} (h : ∀ x ∈ l, key x ≠ k) : look l k = none := by
  unfold look
  rw [List.find?_eq_none.2 (fun x hx => by simpa using h x hx)]; rfl
theorem look_cons (x : It) (l : List It) (k : List UInt8) : look (x :: l) k = if key x = k then some x.f1 else look l k := by
  unfold look
  rw [List.find?_cons]
  by_cases h : key x = k
  · simp [h]
  · have : (key x == k) = false := by rw [beq_eq_false_iff_ne]; exact h
    rw [if_neg h, this]
theorem look_put {l : List It} (ha : Asc l) (c : Ch) (k : List UInt8) : look (put l c) k = if ck c = k then (if c.f1 then some c.f2 else none) else look l k := by
  obtain ⟨mid, hp, hu, hlo, hhi, hm⟩ := parts_of ha (ck c)
  have hl : look l k = ((look (lo l (ck c)) k).or (look mid k)).or (look (hi l (ck c)) k) := by
    have := congrArg (fun z => look z k) hp
    simp only [look_app] at this
    exact this
  unfold put
  rw [look_app, look_app, hl]
  by_cases hk : ck c = k
  · subst hk
    rw [look_none (l := lo l (ck c)) (fun x hx => bl_ne (hlo x hx)), look_none (l := hi l (ck c)) (fun x hx => (bl_ne (hhi x hx)).symm)]
    simp only [if_true, Option.none_or, Option.or_none]
    unfold new_
    by_cases hf : c.f1 = true
    · simp [hf, look_cons]
    · simp only [hf, if_false, Bool.false_eq_true]; rfl
  · rw [if_neg hk, look_none (l := new_ c) (fun x hx => by rw [inew_key x hx]; exact hk), look_none (l := mid) (fun x hx => by
      rcases hm with ⟨rfl, _⟩ | ⟨y, rfl, hy, _⟩
      · cases hx
      · rw [List.mem_singleton.1 hx, hy]; exact hk)]
-- the reference's Done
def apl (l : List It) (cs : List Ch) : List It := cs.foldl put l
theorem apl_ok : ∀ {cs : List Ch} {l : List It}, okL l = true → okC cs = true → okL (apl l cs) = true
  | [], _, h, _ => h
  | c :: cs, l, h, hc => by
    unfold okC at hc
    rw [List.all_cons, Bool.and_eq_true] at hc
    exact apl_ok (cs := cs) (put_ok h hc.1) hc.2
theorem apl_len : ∀ (cs : List Ch) (l : List It), (apl l cs).length ≤ l.length + cs.length
  | [], l => by simp [apl]
  | c :: cs, l => by
    have := apl_len cs (put l c)
    have h2 := put_len l c
    simp only [apl, List.foldl_cons, List.length_cons] at this ⊢
    omega
-- the changes between two
def ad (x : It) : Ch := ⟨x.f0, true, x.f1⟩
end Go.Proofs.YthbljhmjppjcjaaGreatDoor.Z
end
