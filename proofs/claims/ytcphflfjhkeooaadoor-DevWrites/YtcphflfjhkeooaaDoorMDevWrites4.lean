/- DevWrites: at every input the law's function returns true and leaves its arguments as they were; no condition beyond the row's own. Part 4 of 4: this session's own texts, laid together. -/
import Derived.Test.YtcphflfjhkeooaaDoorMB1
import Derived.Test.YtcphflfjhkeooaaDoorMDevWrites3
import Derived.Test.YtcphflfjhkeooaaDoorMB2
import Derived.Test.YtcphflfjhkeooaaDoorCards
import Derived.Test.YtcphflfjhkeooaaDoorTie
import Derived.Deep.DeepHandedRow
import Derived.WalkKit
import Derived.ProofKit
import Derived.OpenShut
import Derived.ShutString
import Derived.ChangeOld
import Derived.Below
import Derived.SizedLaws
import Derived.Carry
section
-- Printed by a program of this session (mp.py) out of the translation.
namespace Go.Proofs.YtcphflfjhkeooaaDoor.Z
open Go.RowKit Go.Proofs.YtcphflfjhkeooaaDoorW.PrintWords Go.Proofs.YtcphflfjhkeooaaDoorW.PrintLast Go.Proofs.YtcphflfjhkeooaaDoorW.PrintMore
attribute [local go_sem] max2_int min2_int max_two min_two max_three min_three max_four min_four   -- for this text's walks alone
set_option linter.unusedVariables false
set_option linter.unusedSimpArgs false

/-! ### cambiumlaw03_DevWrites: function 3 -/
def cambiumlaw03_DevWrites.f (k : Nat) (a0_0 : Int) (l0_1 : List (S39)) (l0_2 : List (S39)) (a0_3 : Bool) (a0_4 : Int) (a1 : Int) (a2 : ByteArray) : Option (Bool) := (cambiumref03_Copy.f a0_0 l0_1 l0_2 a0_3 a0_4).bind fun bt289 => ((dev_Write.f k bt289.1 bt289.2.1 bt289.2.2.1 bt289.2.2.2.1 bt289.2.2.2.2 a1 a2).bind fun bt299 => ((cambiumref03_Write.f k a0_0 l0_1 l0_2 a0_3 a0_4 a1 a2).bind fun bt310 => ((dev_Flush.f k bt289.1 bt289.2.1 bt289.2.2.1 bt289.2.2.2.1 bt289.2.2.2.2).bind fun bt321 => ((cambiumref03_Flush.f k a0_0 l0_1 l0_2 a0_3 a0_4).bind fun bt332 => ((dev_Read.f k bt289.1 bt289.2.1 bt289.2.2.1 bt289.2.2.2.1 bt289.2.2.2.2 a1).bind fun bt343 => ((cambiumref03_Read.f k a0_0 l0_1 l0_2 a0_3 a0_4 a1).bind fun bt345 => ((cambiumlaw03_lives.f k).bind fun t347 => (if t347 = true then ((cambiumref03_Same.f k bt299.1 bt299.2.1 bt299.2.2.1 bt299.2.2.2.1 bt299.2.2.2.2.1 bt310.1 bt310.2.1 bt310.2.2.1 bt310.2.2.2.1 bt310.2.2.2.2.1).bind fun t348 => (if t348 = true then (if bt299.2.2.2.2.2 = bt310.2.2.2.2.2 then ((cambiumref03_Same.f k bt321.1 bt321.2.1 bt321.2.2.1 bt321.2.2.2.1 bt321.2.2.2.2.1 bt332.1 bt332.2.1 bt332.2.2.1 bt332.2.2.2.1 bt332.2.2.2.2.1).bind fun t349 => (if t349 = true then (if bt321.2.2.2.2.2 = bt332.2.2.2.2.2 then (if bt343.1.toList = bt345.1.toList then (if bt343.2 = bt345.2 then ((dev_Check.f k bt289.1 bt289.2.1 bt289.2.2.1 bt289.2.2.2.1 bt289.2.2.2.2).bind fun t350 => ((cambiumref03_Check.f k a0_0 l0_1 l0_2 a0_3 a0_4).bind fun t351 => (if t350 = t351 then ((cambiumref03_Same.f k bt289.1 bt289.2.1 bt289.2.2.1 bt289.2.2.2.1 bt289.2.2.2.2 a0_0 l0_1 l0_2 a0_3 a0_4).bind fun t352 => (some t352)) else (some false)))) else (some false)) else (some false)) else (some false)) else (some false))) else (some false)) else (some false))) else (some false)))))))))
theorem cambiumlaw03_DevWrites.mono : ∀ a0 a1 a2 a3 a4 a5 a6 k, LeO (cambiumlaw03_DevWrites.f k a0 a1 a2 a3 a4 a5 a6) (cambiumlaw03_DevWrites.f (k + 1) a0 a1 a2 a3 a4 a5 a6) := by
  intro a0 a1 a2 a3 a4 a5 a6 k
  unfold cambiumlaw03_DevWrites.f
  repeat' first
      | (with_reducible exact cambiumlaw03_lives.mono _)
      | (with_reducible exact cambiumref03_Check.mono _ _ _ _ _ _)
      | (with_reducible exact cambiumref03_Flush.mono _ _ _ _ _ _)
      | (with_reducible exact cambiumref03_Read.mono _ _ _ _ _ _ _)
      | (with_reducible exact cambiumref03_Same.mono _ _ _ _ _ _ _ _ _ _ _)
      | (with_reducible exact cambiumref03_Write.mono _ _ _ _ _ _ _ _)
      | (with_reducible exact dev_Check.mono _ _ _ _ _ _)
      | (with_reducible exact dev_Flush.mono _ _ _ _ _ _)
      | (with_reducible exact dev_Read.mono _ _ _ _ _ _ _)
      | (with_reducible exact dev_Write.mono _ _ _ _ _ _ _ _)
      | (with_reducible exact LeO.refl _)
      | (with_reducible exact LeO.none _)
      | (with_reducible refine LeO.ite ?_ ?_)
      | (with_reducible refine LeO.bind ?_ (fun _ => ?_))
      | exact cambiumlaw03_lives.mono _
      | exact cambiumref03_Check.mono _ _ _ _ _ _
      | exact cambiumref03_Flush.mono _ _ _ _ _ _
      | exact cambiumref03_Read.mono _ _ _ _ _ _ _
      | exact cambiumref03_Same.mono _ _ _ _ _ _ _ _ _ _ _
      | exact cambiumref03_Write.mono _ _ _ _ _ _ _ _
      | exact dev_Check.mono _ _ _ _ _ _
      | exact dev_Flush.mono _ _ _ _ _ _
      | exact dev_Read.mono _ _ _ _ _ _ _
      | exact dev_Write.mono _ _ _ _ _ _ _ _
      | exact LeO.none _
      | refine LeO.ite ?_ ?_
      | refine LeO.bind ?_ (fun _ => ?_)
def cambiumlaw03_DevWrites.T8 : Bool × List (List Nat × List Nat) := (true, [([], []), ([0, 0], [0]), ([1], [1]), ([1], [1]), ([2, 3, 1, 1], [1, 2, 3]), ([1, 4], [1, 4]), ([5, 4], [5]), ([6], [6]), ([6], [6]), ([7, 8, 6], [6, 7, 8]), ([6, 9], [6, 9]), ([10, 6], [10]), ([11], [11]), ([11], [11]), ([12, 13, 11, 11], [11, 12, 13]), ([11, 14], [11, 14]), ([15, 14], [15]), ([16], [16]), ([16], [16]), ([17, 18, 16], [16, 17, 18]), ([16, 19], [16, 19]), ([20, 16], [20]), ([21], [21]), ([21], [21]), ([22, 23, 21], [21, 22, 23]), ([21, 24], [21, 24]), ([25, 21], [25]), ([26], [26]), ([26], [26]), ([27, 28, 26], [26, 27, 28]), ([26, 29], [26, 29]), ([30, 26], [30]), ([31], [31]), ([32, 31, 31], [31, 32]), ([31], [31]), ([34, 33, 31], [31, 34]), ([33, 35, 31], [31, 33, 35]), ([31, 36], [31, 36]), ([37, 35], [37]), ([38], [38]), ([38], [38]), ([39, 40, 38, 38], [38, 39, 40]), ([38, 41], [38, 41]), ([42, 41, 0, 1, 2, 3, 4, 5, 6, 7, 8, 9, 10, 11, 12, 13, 14, 15, 16, 17, 18, 19, 20, 21, 22, 23, 24, 25, 26, 27, 28, 29, 30, 31, 32, 33, 34, 35, 36, 37, 38, 39, 40, 41, 42], [42])])
def cambiumlaw03_DevWrites.B8 : List Nat := [0, 1, 3, 3, 15, 31, 63, 127, 127, 511, 1023, 2047, 4095, 4095, 16383, 32767, 65535, 131071, 131071, 524287, 1048575, 2097151, 4194303, 4194303, 16777215, 33554431, 67108863, 134217727, 134217727, 536870911, 1073741823, 2147483647, 4294967295, 8589934591, 4294967295, 34359738367, 68719476735, 137438953471, 274877906943, 549755813887, 549755813887, 2199023255551, 4398046511103, 8796093022207]
theorem cambiumlaw03_DevWrites.tab8 : rtab .any (opsOf Tryd.f3 8) = cambiumlaw03_DevWrites.T8 := by kernel_rfl
theorem cambiumlaw03_DevWrites.bits8 : waitsOk cambiumlaw03_DevWrites.T8.2 cambiumlaw03_DevWrites.B8 = true := by kernel_rfl
set_option maxHeartbeats 8000000 in
set_option maxRecDepth 100000 in
theorem cambiumlaw03_DevWrites.calls (k : Nat) (a0_0 : Int) (A0_1 : Option Addr) (c0_1 : Nat) (l0_1 : List (S39)) (A0_2 : Option Addr) (c0_2 : Nat) (l0_2 : List (S39)) (a0_3 : Bool) (a0_4 : Int) (a1 : Int) (a2 : ByteArray) (r : Bool) (w : World) (hr0_1 : Kd.C k39 w A0_1 l0_1.length l0_1) (hc0_1 : l0_1.length ≤ c0_1) (hr0_2 : Kd.C k39 w A0_2 l0_2.length l0_2) (hc0_2 : l0_2.length ≤ c0_2) (h : cambiumlaw03_DevWrites.f k a0_0 l0_1 l0_2 a0_3 a0_4 a1 a2 = some r) (hT_ : r = true := by rfl) :
    Calls Tryd.prog 3 #[.agg #[.int .u32 a0_0, .slice A0_1 l0_1.length c0_1, .slice A0_2 l0_2.length c0_2, .bool a0_3, .int .i64 a0_4], .int .u32 a1, .string a2] w fun e w' => e = .returned (.bool r) ∧ Below w.heap.size w w' := by
  have HT_ := Aside0.mk hT_
  clear hT_
  have hu25 := Tryd.underlying25
  have HR0_1 := Aside0.mk hr0_1
  have HC0_1 := Aside0.mk hc0_1
  clear hr0_1 hc0_1
  have HR0_2 := Aside0.mk hr0_2
  have HC0_2 := Aside0.mk hc0_2
  clear hr0_2 hc0_2
  have HB := Aside0.mk (Below.refl w.heap.size w)
  have H : ((cambiumref03_Copy.f a0_0 l0_1 l0_2 a0_3 a0_4).bind fun bt289 => ((dev_Write.f k bt289.1 bt289.2.1 bt289.2.2.1 bt289.2.2.2.1 bt289.2.2.2.2 a1 a2).bind fun bt299 => ((cambiumref03_Write.f k a0_0 l0_1 l0_2 a0_3 a0_4 a1 a2).bind fun bt310 => ((dev_Flush.f k bt289.1 bt289.2.1 bt289.2.2.1 bt289.2.2.2.1 bt289.2.2.2.2).bind fun bt321 => ((cambiumref03_Flush.f k a0_0 l0_1 l0_2 a0_3 a0_4).bind fun bt332 => ((dev_Read.f k bt289.1 bt289.2.1 bt289.2.2.1 bt289.2.2.2.1 bt289.2.2.2.2 a1).bind fun bt343 => ((cambiumref03_Read.f k a0_0 l0_1 l0_2 a0_3 a0_4 a1).bind fun bt345 => ((cambiumlaw03_lives.f k).bind fun t347 => (if t347 = true then ((cambiumref03_Same.f k bt299.1 bt299.2.1 bt299.2.2.1 bt299.2.2.2.1 bt299.2.2.2.2.1 bt310.1 bt310.2.1 bt310.2.2.1 bt310.2.2.2.1 bt310.2.2.2.2.1).bind fun t348 => (if t348 = true then (if bt299.2.2.2.2.2 = bt310.2.2.2.2.2 then ((cambiumref03_Same.f k bt321.1 bt321.2.1 bt321.2.2.1 bt321.2.2.2.1 bt321.2.2.2.2.1 bt332.1 bt332.2.1 bt332.2.2.1 bt332.2.2.2.1 bt332.2.2.2.2.1).bind fun t349 => (if t349 = true then (if bt321.2.2.2.2.2 = bt332.2.2.2.2.2 then (if bt343.1.toList = bt345.1.toList then (if bt343.2 = bt345.2 then ((dev_Check.f k bt289.1 bt289.2.1 bt289.2.2.1 bt289.2.2.2.1 bt289.2.2.2.2).bind fun t350 => ((cambiumref03_Check.f k a0_0 l0_1 l0_2 a0_3 a0_4).bind fun t351 => (if t350 = t351 then ((cambiumref03_Same.f k bt289.1 bt289.2.1 bt289.2.2.1 bt289.2.2.2.1 bt289.2.2.2.2 a0_0 l0_1 l0_2 a0_3 a0_4).bind fun t352 => (some t352)) else (some false)))) else (some false)) else (some false)) else (some false)) else (some false))) else (some false)) else (some false))) else (some false)))))))))) = some r := h
  clear h
  replace H := Option.bind_eq_some_iff.mp H
  obtain ⟨⟨t289, t290, t293, t296, t297⟩, A40, H⟩ := H
  replace H : ((dev_Write.f k t289 t290 t293 t296 t297 a1 a2).bind fun bt299 => ((cambiumref03_Write.f k a0_0 l0_1 l0_2 a0_3 a0_4 a1 a2).bind fun bt310 => ((dev_Flush.f k t289 t290 t293 t296 t297).bind fun bt321 => ((cambiumref03_Flush.f k a0_0 l0_1 l0_2 a0_3 a0_4).bind fun bt332 => ((dev_Read.f k t289 t290 t293 t296 t297 a1).bind fun bt343 => ((cambiumref03_Read.f k a0_0 l0_1 l0_2 a0_3 a0_4 a1).bind fun bt345 => ((cambiumlaw03_lives.f k).bind fun t347 => (if t347 = true then ((cambiumref03_Same.f k bt299.1 bt299.2.1 bt299.2.2.1 bt299.2.2.2.1 bt299.2.2.2.2.1 bt310.1 bt310.2.1 bt310.2.2.1 bt310.2.2.2.1 bt310.2.2.2.2.1).bind fun t348 => (if t348 = true then (if bt299.2.2.2.2.2 = bt310.2.2.2.2.2 then ((cambiumref03_Same.f k bt321.1 bt321.2.1 bt321.2.2.1 bt321.2.2.2.1 bt321.2.2.2.2.1 bt332.1 bt332.2.1 bt332.2.2.1 bt332.2.2.2.1 bt332.2.2.2.2.1).bind fun t349 => (if t349 = true then (if bt321.2.2.2.2.2 = bt332.2.2.2.2.2 then (if bt343.1.toList = bt345.1.toList then (if bt343.2 = bt345.2 then ((dev_Check.f k t289 t290 t293 t296 t297).bind fun t350 => ((cambiumref03_Check.f k a0_0 l0_1 l0_2 a0_3 a0_4).bind fun t351 => (if t350 = t351 then ((cambiumref03_Same.f k t289 t290 t293 t296 t297 a0_0 l0_1 l0_2 a0_3 a0_4).bind fun t352 => (some t352)) else (some false)))) else (some false)) else (some false)) else (some false)) else (some false))) else (some false)) else (some false))) else (some false))))))))) = some r := H
  have A4 := Aside0.mk A40
  clear A40
  replace H := Option.bind_eq_some_iff.mp H
  obtain ⟨⟨t299, t300, t303, t306, t307, t308⟩, A50, H⟩ := H
  replace H : ((cambiumref03_Write.f k a0_0 l0_1 l0_2 a0_3 a0_4 a1 a2).bind fun bt310 => ((dev_Flush.f k t289 t290 t293 t296 t297).bind fun bt321 => ((cambiumref03_Flush.f k a0_0 l0_1 l0_2 a0_3 a0_4).bind fun bt332 => ((dev_Read.f k t289 t290 t293 t296 t297 a1).bind fun bt343 => ((cambiumref03_Read.f k a0_0 l0_1 l0_2 a0_3 a0_4 a1).bind fun bt345 => ((cambiumlaw03_lives.f k).bind fun t347 => (if t347 = true then ((cambiumref03_Same.f k t299 t300 t303 t306 t307 bt310.1 bt310.2.1 bt310.2.2.1 bt310.2.2.2.1 bt310.2.2.2.2.1).bind fun t348 => (if t348 = true then (if t308 = bt310.2.2.2.2.2 then ((cambiumref03_Same.f k bt321.1 bt321.2.1 bt321.2.2.1 bt321.2.2.2.1 bt321.2.2.2.2.1 bt332.1 bt332.2.1 bt332.2.2.1 bt332.2.2.2.1 bt332.2.2.2.2.1).bind fun t349 => (if t349 = true then (if bt321.2.2.2.2.2 = bt332.2.2.2.2.2 then (if bt343.1.toList = bt345.1.toList then (if bt343.2 = bt345.2 then ((dev_Check.f k t289 t290 t293 t296 t297).bind fun t350 => ((cambiumref03_Check.f k a0_0 l0_1 l0_2 a0_3 a0_4).bind fun t351 => (if t350 = t351 then ((cambiumref03_Same.f k t289 t290 t293 t296 t297 a0_0 l0_1 l0_2 a0_3 a0_4).bind fun t352 => (some t352)) else (some false)))) else (some false)) else (some false)) else (some false)) else (some false))) else (some false)) else (some false))) else (some false)))))))) = some r := H
  have A5 := Aside0.mk A50
  clear A50
  replace H := Option.bind_eq_some_iff.mp H
  obtain ⟨⟨t310, t311, t314, t317, t318, t319⟩, A60, H⟩ := H
  replace H : ((dev_Flush.f k t289 t290 t293 t296 t297).bind fun bt321 => ((cambiumref03_Flush.f k a0_0 l0_1 l0_2 a0_3 a0_4).bind fun bt332 => ((dev_Read.f k t289 t290 t293 t296 t297 a1).bind fun bt343 => ((cambiumref03_Read.f k a0_0 l0_1 l0_2 a0_3 a0_4 a1).bind fun bt345 => ((cambiumlaw03_lives.f k).bind fun t347 => (if t347 = true then ((cambiumref03_Same.f k t299 t300 t303 t306 t307 t310 t311 t314 t317 t318).bind fun t348 => (if t348 = true then (if t308 = t319 then ((cambiumref03_Same.f k bt321.1 bt321.2.1 bt321.2.2.1 bt321.2.2.2.1 bt321.2.2.2.2.1 bt332.1 bt332.2.1 bt332.2.2.1 bt332.2.2.2.1 bt332.2.2.2.2.1).bind fun t349 => (if t349 = true then (if bt321.2.2.2.2.2 = bt332.2.2.2.2.2 then (if bt343.1.toList = bt345.1.toList then (if bt343.2 = bt345.2 then ((dev_Check.f k t289 t290 t293 t296 t297).bind fun t350 => ((cambiumref03_Check.f k a0_0 l0_1 l0_2 a0_3 a0_4).bind fun t351 => (if t350 = t351 then ((cambiumref03_Same.f k t289 t290 t293 t296 t297 a0_0 l0_1 l0_2 a0_3 a0_4).bind fun t352 => (some t352)) else (some false)))) else (some false)) else (some false)) else (some false)) else (some false))) else (some false)) else (some false))) else (some false))))))) = some r := H
  have A6 := Aside0.mk A60
  clear A60
  replace H := Option.bind_eq_some_iff.mp H
  obtain ⟨⟨t321, t322, t325, t328, t329, t330⟩, A70, H⟩ := H
  replace H : ((cambiumref03_Flush.f k a0_0 l0_1 l0_2 a0_3 a0_4).bind fun bt332 => ((dev_Read.f k t289 t290 t293 t296 t297 a1).bind fun bt343 => ((cambiumref03_Read.f k a0_0 l0_1 l0_2 a0_3 a0_4 a1).bind fun bt345 => ((cambiumlaw03_lives.f k).bind fun t347 => (if t347 = true then ((cambiumref03_Same.f k t299 t300 t303 t306 t307 t310 t311 t314 t317 t318).bind fun t348 => (if t348 = true then (if t308 = t319 then ((cambiumref03_Same.f k t321 t322 t325 t328 t329 bt332.1 bt332.2.1 bt332.2.2.1 bt332.2.2.2.1 bt332.2.2.2.2.1).bind fun t349 => (if t349 = true then (if t330 = bt332.2.2.2.2.2 then (if bt343.1.toList = bt345.1.toList then (if bt343.2 = bt345.2 then ((dev_Check.f k t289 t290 t293 t296 t297).bind fun t350 => ((cambiumref03_Check.f k a0_0 l0_1 l0_2 a0_3 a0_4).bind fun t351 => (if t350 = t351 then ((cambiumref03_Same.f k t289 t290 t293 t296 t297 a0_0 l0_1 l0_2 a0_3 a0_4).bind fun t352 => (some t352)) else (some false)))) else (some false)) else (some false)) else (some false)) else (some false))) else (some false)) else (some false))) else (some false)))))) = some r := H
  have A7 := Aside0.mk A70
  clear A70
  replace H := Option.bind_eq_some_iff.mp H
  obtain ⟨⟨t332, t333, t336, t339, t340, t341⟩, A80, H⟩ := H
  replace H : ((dev_Read.f k t289 t290 t293 t296 t297 a1).bind fun bt343 => ((cambiumref03_Read.f k a0_0 l0_1 l0_2 a0_3 a0_4 a1).bind fun bt345 => ((cambiumlaw03_lives.f k).bind fun t347 => (if t347 = true then ((cambiumref03_Same.f k t299 t300 t303 t306 t307 t310 t311 t314 t317 t318).bind fun t348 => (if t348 = true then (if t308 = t319 then ((cambiumref03_Same.f k t321 t322 t325 t328 t329 t332 t333 t336 t339 t340).bind fun t349 => (if t349 = true then (if t330 = t341 then (if bt343.1.toList = bt345.1.toList then (if bt343.2 = bt345.2 then ((dev_Check.f k t289 t290 t293 t296 t297).bind fun t350 => ((cambiumref03_Check.f k a0_0 l0_1 l0_2 a0_3 a0_4).bind fun t351 => (if t350 = t351 then ((cambiumref03_Same.f k t289 t290 t293 t296 t297 a0_0 l0_1 l0_2 a0_3 a0_4).bind fun t352 => (some t352)) else (some false)))) else (some false)) else (some false)) else (some false)) else (some false))) else (some false)) else (some false))) else (some false))))) = some r := H
  have A8 := Aside0.mk A80
  clear A80
  replace H := Option.bind_eq_some_iff.mp H
  obtain ⟨⟨t343, t344⟩, A90, H⟩ := H
  replace H : ((cambiumref03_Read.f k a0_0 l0_1 l0_2 a0_3 a0_4 a1).bind fun bt345 => ((cambiumlaw03_lives.f k).bind fun t347 => (if t347 = true then ((cambiumref03_Same.f k t299 t300 t303 t306 t307 t310 t311 t314 t317 t318).bind fun t348 => (if t348 = true then (if t308 = t319 then ((cambiumref03_Same.f k t321 t322 t325 t328 t329 t332 t333 t336 t339 t340).bind fun t349 => (if t349 = true then (if t330 = t341 then (if t343.toList = bt345.1.toList then (if t344 = bt345.2 then ((dev_Check.f k t289 t290 t293 t296 t297).bind fun t350 => ((cambiumref03_Check.f k a0_0 l0_1 l0_2 a0_3 a0_4).bind fun t351 => (if t350 = t351 then ((cambiumref03_Same.f k t289 t290 t293 t296 t297 a0_0 l0_1 l0_2 a0_3 a0_4).bind fun t352 => (some t352)) else (some false)))) else (some false)) else (some false)) else (some false)) else (some false))) else (some false)) else (some false))) else (some false)))) = some r := H
  have A9 := Aside0.mk A90
  clear A90
  replace H := Option.bind_eq_some_iff.mp H
  obtain ⟨⟨t345, t346⟩, A100, H⟩ := H
  replace H : ((cambiumlaw03_lives.f k).bind fun t347 => (if t347 = true then ((cambiumref03_Same.f k t299 t300 t303 t306 t307 t310 t311 t314 t317 t318).bind fun t348 => (if t348 = true then (if t308 = t319 then ((cambiumref03_Same.f k t321 t322 t325 t328 t329 t332 t333 t336 t339 t340).bind fun t349 => (if t349 = true then (if t330 = t341 then (if t343.toList = t345.toList then (if t344 = t346 then ((dev_Check.f k t289 t290 t293 t296 t297).bind fun t350 => ((cambiumref03_Check.f k a0_0 l0_1 l0_2 a0_3 a0_4).bind fun t351 => (if t350 = t351 then ((cambiumref03_Same.f k t289 t290 t293 t296 t297 a0_0 l0_1 l0_2 a0_3 a0_4).bind fun t352 => (some t352)) else (some false)))) else (some false)) else (some false)) else (some false)) else (some false))) else (some false)) else (some false))) else (some false))) = some r := H
  have A10 := Aside0.mk A100
  clear A100
  replace H := Option.bind_eq_some_iff.mp H
  obtain ⟨t347, A110, H⟩ := H
  replace H : (if t347 = true then ((cambiumref03_Same.f k t299 t300 t303 t306 t307 t310 t311 t314 t317 t318).bind fun t348 => (if t348 = true then (if t308 = t319 then ((cambiumref03_Same.f k t321 t322 t325 t328 t329 t332 t333 t336 t339 t340).bind fun t349 => (if t349 = true then (if t330 = t341 then (if t343.toList = t345.toList then (if t344 = t346 then ((dev_Check.f k t289 t290 t293 t296 t297).bind fun t350 => ((cambiumref03_Check.f k a0_0 l0_1 l0_2 a0_3 a0_4).bind fun t351 => (if t350 = t351 then ((cambiumref03_Same.f k t289 t290 t293 t296 t297 a0_0 l0_1 l0_2 a0_3 a0_4).bind fun t352 => (some t352)) else (some false)))) else (some false)) else (some false)) else (some false)) else (some false))) else (some false)) else (some false))) else (some false)) = some r := H
  have A11 := Aside0.mk A110
  clear A110
  by_cases c12 : t347 = true
  · subst c12
    have H1 : ((cambiumref03_Same.f k t299 t300 t303 t306 t307 t310 t311 t314 t317 t318).bind fun t348 => (if t348 = true then (if t308 = t319 then ((cambiumref03_Same.f k t321 t322 t325 t328 t329 t332 t333 t336 t339 t340).bind fun t349 => (if t349 = true then (if t330 = t341 then (if t343.toList = t345.toList then (if t344 = t346 then ((dev_Check.f k t289 t290 t293 t296 t297).bind fun t350 => ((cambiumref03_Check.f k a0_0 l0_1 l0_2 a0_3 a0_4).bind fun t351 => (if t350 = t351 then ((cambiumref03_Same.f k t289 t290 t293 t296 t297 a0_0 l0_1 l0_2 a0_3 a0_4).bind fun t352 => (some t352)) else (some false)))) else (some false)) else (some false)) else (some false)) else (some false))) else (some false)) else (some false))) = some r := by rw [if_pos rfl] at H; exact H
    clear H
    have H := H1
    clear H1
    replace H := Option.bind_eq_some_iff.mp H
    obtain ⟨t348, A130, H⟩ := H
    replace H : (if t348 = true then (if t308 = t319 then ((cambiumref03_Same.f k t321 t322 t325 t328 t329 t332 t333 t336 t339 t340).bind fun t349 => (if t349 = true then (if t330 = t341 then (if t343.toList = t345.toList then (if t344 = t346 then ((dev_Check.f k t289 t290 t293 t296 t297).bind fun t350 => ((cambiumref03_Check.f k a0_0 l0_1 l0_2 a0_3 a0_4).bind fun t351 => (if t350 = t351 then ((cambiumref03_Same.f k t289 t290 t293 t296 t297 a0_0 l0_1 l0_2 a0_3 a0_4).bind fun t352 => (some t352)) else (some false)))) else (some false)) else (some false)) else (some false)) else (some false))) else (some false)) else (some false)) = some r := H
    have A13 := Aside0.mk A130
    clear A130
    by_cases c14 : t348 = true
    · subst c14
      have H1 : (if t308 = t319 then ((cambiumref03_Same.f k t321 t322 t325 t328 t329 t332 t333 t336 t339 t340).bind fun t349 => (if t349 = true then (if t330 = t341 then (if t343.toList = t345.toList then (if t344 = t346 then ((dev_Check.f k t289 t290 t293 t296 t297).bind fun t350 => ((cambiumref03_Check.f k a0_0 l0_1 l0_2 a0_3 a0_4).bind fun t351 => (if t350 = t351 then ((cambiumref03_Same.f k t289 t290 t293 t296 t297 a0_0 l0_1 l0_2 a0_3 a0_4).bind fun t352 => (some t352)) else (some false)))) else (some false)) else (some false)) else (some false)) else (some false))) else (some false)) = some r := by rw [if_pos rfl] at H; exact H
      clear H
      have H := H1
      clear H1
      by_cases c15 : t308 = t319
      · rw [if_pos c15] at H
        have c15b0 : (t308 == t319) = true := beq_iff_eq.mpr c15
        have c15b1 : (t308 != t319) = false := bne_eq_false_iff_eq.mpr c15
        clear c15
        replace H := Option.bind_eq_some_iff.mp H
        obtain ⟨t349, A160, H⟩ := H
        replace H : (if t349 = true then (if t330 = t341 then (if t343.toList = t345.toList then (if t344 = t346 then ((dev_Check.f k t289 t290 t293 t296 t297).bind fun t350 => ((cambiumref03_Check.f k a0_0 l0_1 l0_2 a0_3 a0_4).bind fun t351 => (if t350 = t351 then ((cambiumref03_Same.f k t289 t290 t293 t296 t297 a0_0 l0_1 l0_2 a0_3 a0_4).bind fun t352 => (some t352)) else (some false)))) else (some false)) else (some false)) else (some false)) else (some false)) = some r := H
        have A16 := Aside0.mk A160
        clear A160
        by_cases c17 : t349 = true
        · subst c17
          have H1 : (if t330 = t341 then (if t343.toList = t345.toList then (if t344 = t346 then ((dev_Check.f k t289 t290 t293 t296 t297).bind fun t350 => ((cambiumref03_Check.f k a0_0 l0_1 l0_2 a0_3 a0_4).bind fun t351 => (if t350 = t351 then ((cambiumref03_Same.f k t289 t290 t293 t296 t297 a0_0 l0_1 l0_2 a0_3 a0_4).bind fun t352 => (some t352)) else (some false)))) else (some false)) else (some false)) else (some false)) = some r := by rw [if_pos rfl] at H; exact H
          clear H
          have H := H1
          clear H1
          by_cases c18 : t330 = t341
          · rw [if_pos c18] at H
            have c18b0 : (t330 == t341) = true := beq_iff_eq.mpr c18
            have c18b1 : (t330 != t341) = false := bne_eq_false_iff_eq.mpr c18
            clear c18
            by_cases c19 : t343.toList = t345.toList
            · rw [if_pos c19] at H
              have c19b0 : (t343.toList == t345.toList) = true := beq_iff_eq.mpr c19
              have c19b1 : (t343.toList != t345.toList) = false := bne_eq_false_iff_eq.mpr c19
              clear c19
              by_cases c20 : t344 = t346
              · rw [if_pos c20] at H
                have c20b0 : (t344 == t346) = true := beq_iff_eq.mpr c20
                have c20b1 : (t344 != t346) = false := bne_eq_false_iff_eq.mpr c20
                clear c20
                replace H := Option.bind_eq_some_iff.mp H
                obtain ⟨t350, A210, H⟩ := H
                replace H : ((cambiumref03_Check.f k a0_0 l0_1 l0_2 a0_3 a0_4).bind fun t351 => (if t350 = t351 then ((cambiumref03_Same.f k t289 t290 t293 t296 t297 a0_0 l0_1 l0_2 a0_3 a0_4).bind fun t352 => (some t352)) else (some false))) = some r := H
                have A21 := Aside0.mk A210
                clear A210
                replace H := Option.bind_eq_some_iff.mp H
                obtain ⟨t351, A220, H⟩ := H
                replace H : (if t350 = t351 then ((cambiumref03_Same.f k t289 t290 t293 t296 t297 a0_0 l0_1 l0_2 a0_3 a0_4).bind fun t352 => (some t352)) else (some false)) = some r := H
                have A22 := Aside0.mk A220
                clear A220
                by_cases c23 : t350 = t351
                · rw [if_pos c23] at H
                  have c23b0 : (t350 == t351) = true := beq_iff_eq.mpr c23
                  have c23b1 : (t350 != t351) = false := bne_eq_false_iff_eq.mpr c23
                  clear c23
                  replace H := Option.bind_eq_some_iff.mp H
                  obtain ⟨t352, A240, H⟩ := H
                  replace H : (some t352) = some r := H
                  have A24 := Aside0.mk A240
                  clear A240
                  obtain rfl := Option.some.inj H
                  go_enter Tryd.func3, Tryd.ntmps3
                  try go_wp2_with (first | ((with_reducible refine gate_dst (N := 3) rfl ?_); refine bx_ (N := 3) (cs := #[.int .u32 a0_0, .slice A0_1 l0_1.length c0_1, .slice A0_2 l0_2.length c0_2, .bool a0_3, .int .i64 a0_4]) (t := 25) ?_; intro gb288 hg w25 hbox hb; have BK288 := Aside0.mk (hbox); have GW288 := ge_ hg; have GE288 := ge_ hg; replace HB := hb_ hb; clear hb hbox hg; obtain ⟨hcz26_0, hcz26_1, hcz26_2, hcz26_3, hcz26_4⟩ := cl5_ BK288; obtain ⟨hfz26_0, hfz26_1, hfz26_2, hfz26_3, hfz26_4⟩ := fz5_ BK288) | ((with_reducible refine gate_callee (f := 12) rfl ?_); refine gl_ (some 21) Tryd.func12 #[.agg #[.int .u32 a0_0, .slice A0_1 l0_1.length c0_1, .slice A0_2 l0_2.length c0_2, .bool a0_3, .int .i64 a0_4]] ?_; (with_reducible refine (cambiumref03_Copy.calls a0_0 _ _ l0_1 _ _ l0_2 a0_3 a0_4 t289 t290 t293 t296 t297 _ ?side1 ?side2 ?side3 ?side4 A4.out).mono ?_); (case side1 => exact cb_ HR0_1); (case side2 => exact HC0_1.out); (case side3 => exact cb_ HR0_2); (case side4 => exact HC0_2.out); rintro e w27 ⟨v291, v294, rfl, ho0, ho1, hb⟩; refine ⟨_, rfl, ?_⟩; have HO292 := rl_ ho0; have HO295 := rl_ ho1; replace BK288 := kb_ BK288 hb; replace HB := hb_ hb; (try clear hb); (try clear hb2); (try clear hk); (try clear hi); (try clear ho0); (try clear ho1)) | ((with_reducible refine gate_dst (N := 7) rfl ?_); refine bx_ (N := 7) (cs := #[.int .u32 0, .slice none 0 0, .slice none 0 0, .bool false, .int .i64 0]) (t := 25) ?_; intro gb298 hg w28 hbox hb; have BK298 := Aside0.mk (hbox); have GW298 := ge_ hg; have GE298 := ge_ hg; have NB288_298 := nl_ BK288 hg; have NB298_288 := ng_ BK288 hg; replace HO292 := rb_ HO292 hb; replace HO295 := rb_ HO295 hb; replace BK288 := kb_ BK288 hb; replace HB := hb_ hb; clear hb hbox hg; have hnb29 := NB298_288.out; have hnc29 := NB288_298.out; obtain ⟨hcz30_0, hcz30_1, hcz30_2, hcz30_3, hcz30_4⟩ := cl5_ BK298; obtain ⟨hfz30_0, hfz30_1, hfz30_2, hfz30_3, hfz30_4⟩ := fz5_ BK298; obtain ⟨Ao31, co31, eo31⟩ := Kd.R_slice HO292.out; subst eo31; obtain ⟨Ao32, co32, eo32⟩ := Kd.R_slice HO295.out; subst eo32) | ((with_reducible refine gate_callee (f := 13) rfl ?_); refine gl_ (some 26) Tryd.func13 #[.agg #[.int .u32 t289, .slice Ao31 t290.length co31, .slice Ao32 t293.length co32, .bool t296, .int .i64 t297], .int .u32 a1, .string a2] ?_; (with_reducible refine (dev_Write.calls k t289 _ _ t290 _ _ t293 t296 t297 a1 a2 t299 t300 t303 t306 t307 t308 _ ?side1 ?side2 ?side3 ?side4 A5.out).mono ?_); (case side1 => exact (Kd.R_reads' (rw_ HO292)).2.2); (case side2 => exact (Kd.R_reads' HO292.out).2.1); (case side3 => exact (Kd.R_reads' (rw_ HO295)).2.2); (case side4 => exact (Kd.R_reads' HO295.out).2.1); rintro e w33 ⟨v301, v304, rfl, ho0, ho1, hb⟩; refine ⟨_, rfl, ?_⟩; have HO302 := Aside0.mk (Kd.R_lower (Kd.R_new' (Kd.R_new' ho0 (Kd.R_lt (rw_ HO292))) (Kd.R_lt (rw_ HO295))) (below_size bel_)); have HO305 := Aside0.mk (Kd.R_lower (Kd.R_new' (Kd.R_new' ho1 (Kd.R_lt (rw_ HO292))) (Kd.R_lt (rw_ HO295))) (below_size bel_)); replace HO292 := Aside0.mk (Kd.R_mono (Kd.R_told (Kd.R_told (Kd.R_old (rw_ HO292) hb) (Kd.R_base ho0)) (Kd.R_base ho1)) (fun _ h_ => h_.1)); replace HO295 := Aside0.mk (Kd.R_mono (Kd.R_told (Kd.R_told (Kd.R_old (rw_ HO295) hb) (Kd.R_base ho0)) (Kd.R_base ho1)) (fun _ h_ => h_.1)); replace BK288 := Aside0.mk (blk_below (g := gb288) (o := .cells #[.int .u32 a0_0, .slice A0_1 l0_1.length c0_1, .slice A0_2 l0_2.length c0_2, .bool a0_3, .int .i64 a0_4] 25 (0, 0)) (bs_) hb); replace HB := hb_ hb; replace BK298 := Aside0.mk (blk_below (g := gb298) (o := .cells #[.int .u32 t289, .slice Ao31 t290.length co31, .slice Ao32 t293.length co32, .bool t296, .int .i64 t297] 25 (0, 0)) (bs_) hb); (try clear hb); (try clear hb2); (try clear hk); (try clear hi); (try clear ho0); (try clear ho1)) | ((with_reducible refine gate_dst (N := 8) rfl ?_); refine bx_ (N := 8) (cs := #[.int .u32 0, .slice none 0 0, .slice none 0 0, .bool false, .int .i64 0]) (t := 25) ?_; intro gb309 hg w34 hbox hb; have BK309 := Aside0.mk (hbox); have GW309 := ge_ hg; have GE309 := ge_ hg; have NB288_309 := nl_ BK288 hg; have NB309_288 := ng_ BK288 hg; have NB298_309 := nl_ BK298 hg; have NB309_298 := ng_ BK298 hg; replace HO292 := rb_ HO292 hb; replace HO295 := rb_ HO295 hb; replace HO302 := rb_ HO302 hb; replace HO305 := rb_ HO305 hb; replace BK288 := kb_ BK288 hb; replace BK298 := kb_ BK298 hb; replace HB := hb_ hb; clear hb hbox hg; have hnb35 := NB309_288.out; have hnc35 := NB288_309.out; have hnb36 := NB309_298.out; have hnc36 := NB298_309.out; obtain ⟨hcz37_0, hcz37_1, hcz37_2, hcz37_3, hcz37_4⟩ := cl5_ BK309; obtain ⟨hfz37_0, hfz37_1, hfz37_2, hfz37_3, hfz37_4⟩ := fz5_ BK309; obtain ⟨Ao38, co38, eo38⟩ := Kd.R_slice HO302.out; subst eo38; obtain ⟨Ao39, co39, eo39⟩ := Kd.R_slice HO305.out; subst eo39; obtain ⟨hcz40_0, hcz40_1, hcz40_2, hcz40_3, hcz40_4⟩ := cl5_ BK288; obtain ⟨hfz40_0, hfz40_1, hfz40_2, hfz40_3, hfz40_4⟩ := fz5_ BK288) | ((with_reducible refine gate_callee (f := 14) rfl ?_); refine gl_ (some 33) Tryd.func14 #[.agg #[.int .u32 a0_0, .slice A0_1 l0_1.length c0_1, .slice A0_2 l0_2.length c0_2, .bool a0_3, .int .i64 a0_4], .int .u32 a1, .string a2] ?_; (with_reducible refine (cambiumref03_Write.calls k a0_0 _ _ l0_1 _ _ l0_2 a0_3 a0_4 a1 a2 t310 t311 t314 t317 t318 t319 _ ?side1 ?side2 ?side3 ?side4 A6.out).mono ?_); (case side1 => exact Kd.C_below HR0_1.out bel_); (case side2 => exact HC0_1.out); (case side3 => exact Kd.C_below HR0_2.out bel_); (case side4 => exact HC0_2.out); rintro e w41 ⟨v312, v315, rfl, ho0, ho1, hb⟩; refine ⟨_, rfl, ?_⟩; have HO313 := Aside0.mk (Kd.R_lower (Kd.R_new' (Kd.R_new' (Kd.R_new' (Kd.R_new' ho0 (Kd.R_lt (rw_ HO292))) (Kd.R_lt (rw_ HO295))) (Kd.R_lt (rw_ HO302))) (Kd.R_lt (rw_ HO305))) (below_size bel_)); have HO316 := Aside0.mk (Kd.R_lower (Kd.R_new' (Kd.R_new' (Kd.R_new' (Kd.R_new' ho1 (Kd.R_lt (rw_ HO292))) (Kd.R_lt (rw_ HO295))) (Kd.R_lt (rw_ HO302))) (Kd.R_lt (rw_ HO305))) (below_size bel_)); replace HO292 := Aside0.mk (Kd.R_mono (Kd.R_told (Kd.R_told (Kd.R_old (rw_ HO292) hb) (Kd.R_base ho0)) (Kd.R_base ho1)) (fun _ h_ => h_.1)); replace HO295 := Aside0.mk (Kd.R_mono (Kd.R_told (Kd.R_told (Kd.R_old (rw_ HO295) hb) (Kd.R_base ho0)) (Kd.R_base ho1)) (fun _ h_ => h_.1)); replace HO302 := Aside0.mk (Kd.R_mono (Kd.R_told (Kd.R_told (Kd.R_old (rw_ HO302) hb) (Kd.R_base ho0)) (Kd.R_base ho1)) (fun _ h_ => h_.1)); replace HO305 := Aside0.mk (Kd.R_mono (Kd.R_told (Kd.R_told (Kd.R_old (rw_ HO305) hb) (Kd.R_base ho0)) (Kd.R_base ho1)) (fun _ h_ => h_.1)); replace BK288 := Aside0.mk (blk_below (g := gb288) (o := .cells #[.int .u32 a0_0, .slice A0_1 l0_1.length c0_1, .slice A0_2 l0_2.length c0_2, .bool a0_3, .int .i64 a0_4] 25 (0, 0)) (bs_) hb); replace BK298 := Aside0.mk (blk_below (g := gb298) (o := .cells #[.int .u32 t289, .slice Ao31 t290.length co31, .slice Ao32 t293.length co32, .bool t296, .int .i64 t297] 25 (0, 0)) (bs_) hb); replace HB := hb_ hb; replace BK309 := Aside0.mk (blk_below (g := gb309) (o := .cells #[.int .u32 t299, .slice Ao38 t300.length co38, .slice Ao39 t303.length co39, .bool t306, .int .i64 t307] 25 (0, 0)) (bs_) hb); (try clear hb); (try clear hb2); (try clear hk); (try clear hi); (try clear ho0); (try clear ho1)) | ((with_reducible refine gate_dst (N := 10) rfl ?_); refine bx_ (N := 10) (cs := #[.int .u32 0, .slice none 0 0, .slice none 0 0, .bool false, .int .i64 0]) (t := 25) ?_; intro gb320 hg w42 hbox hb; have BK320 := Aside0.mk (hbox); have GW320 := ge_ hg; have GE320 := ge_ hg; have NB288_320 := nl_ BK288 hg; have NB320_288 := ng_ BK288 hg; have NB298_320 := nl_ BK298 hg; have NB320_298 := ng_ BK298 hg; have NB309_320 := nl_ BK309 hg; have NB320_309 := ng_ BK309 hg; replace HO292 := rb_ HO292 hb; replace HO295 := rb_ HO295 hb; replace HO302 := rb_ HO302 hb; replace HO305 := rb_ HO305 hb; replace HO313 := rb_ HO313 hb; replace HO316 := rb_ HO316 hb; replace BK288 := kb_ BK288 hb; replace BK298 := kb_ BK298 hb; replace BK309 := kb_ BK309 hb; replace HB := hb_ hb; clear hb hbox hg; have hnb43 := NB320_288.out; have hnc43 := NB288_320.out; have hnb44 := NB320_298.out; have hnc44 := NB298_320.out; have hnb45 := NB320_309.out; have hnc45 := NB309_320.out; obtain ⟨hcz46_0, hcz46_1, hcz46_2, hcz46_3, hcz46_4⟩ := cl5_ BK320; obtain ⟨hfz46_0, hfz46_1, hfz46_2, hfz46_3, hfz46_4⟩ := fz5_ BK320; obtain ⟨Ao47, co47, eo47⟩ := Kd.R_slice HO313.out; subst eo47; obtain ⟨Ao48, co48, eo48⟩ := Kd.R_slice HO316.out; subst eo48; obtain ⟨hcz49_0, hcz49_1, hcz49_2, hcz49_3, hcz49_4⟩ := cl5_ BK298; obtain ⟨hfz49_0, hfz49_1, hfz49_2, hfz49_3, hfz49_4⟩ := fz5_ BK298) | ((with_reducible refine gate_callee (f := 15) rfl ?_); refine gl_ (some 38) Tryd.func15 #[.agg #[.int .u32 t289, .slice Ao31 t290.length co31, .slice Ao32 t293.length co32, .bool t296, .int .i64 t297]] ?_; (with_reducible refine (dev_Flush.calls k t289 _ _ t290 _ _ t293 t296 t297 t321 t322 t325 t328 t329 t330 _ ?side1 ?side2 ?side3 ?side4 A7.out).mono ?_); (case side1 => exact (Kd.R_reads' (rw_ HO292)).2.2); (case side2 => exact (Kd.R_reads' HO292.out).2.1); (case side3 => exact (Kd.R_reads' (rw_ HO295)).2.2); (case side4 => exact (Kd.R_reads' HO295.out).2.1); rintro e w50 ⟨v323, v326, rfl, ho0, ho1, hb⟩; refine ⟨_, rfl, ?_⟩; have HO324 := Aside0.mk (Kd.R_lower (Kd.R_new' (Kd.R_new' (Kd.R_new' (Kd.R_new' (Kd.R_new' (Kd.R_new' ho0 (Kd.R_lt (rw_ HO292))) (Kd.R_lt (rw_ HO295))) (Kd.R_lt (rw_ HO302))) (Kd.R_lt (rw_ HO305))) (Kd.R_lt (rw_ HO313))) (Kd.R_lt (rw_ HO316))) (below_size bel_)); have HO327 := Aside0.mk (Kd.R_lower (Kd.R_new' (Kd.R_new' (Kd.R_new' (Kd.R_new' (Kd.R_new' (Kd.R_new' ho1 (Kd.R_lt (rw_ HO292))) (Kd.R_lt (rw_ HO295))) (Kd.R_lt (rw_ HO302))) (Kd.R_lt (rw_ HO305))) (Kd.R_lt (rw_ HO313))) (Kd.R_lt (rw_ HO316))) (below_size bel_)); replace HO292 := Aside0.mk (Kd.R_mono (Kd.R_told (Kd.R_told (Kd.R_old (rw_ HO292) hb) (Kd.R_base ho0)) (Kd.R_base ho1)) (fun _ h_ => h_.1)); replace HO295 := Aside0.mk (Kd.R_mono (Kd.R_told (Kd.R_told (Kd.R_old (rw_ HO295) hb) (Kd.R_base ho0)) (Kd.R_base ho1)) (fun _ h_ => h_.1)); replace HO302 := Aside0.mk (Kd.R_mono (Kd.R_told (Kd.R_told (Kd.R_old (rw_ HO302) hb) (Kd.R_base ho0)) (Kd.R_base ho1)) (fun _ h_ => h_.1)); replace HO305 := Aside0.mk (Kd.R_mono (Kd.R_told (Kd.R_told (Kd.R_old (rw_ HO305) hb) (Kd.R_base ho0)) (Kd.R_base ho1)) (fun _ h_ => h_.1)); replace HO313 := Aside0.mk (Kd.R_mono (Kd.R_told (Kd.R_told (Kd.R_old (rw_ HO313) hb) (Kd.R_base ho0)) (Kd.R_base ho1)) (fun _ h_ => h_.1)); replace HO316 := Aside0.mk (Kd.R_mono (Kd.R_told (Kd.R_told (Kd.R_old (rw_ HO316) hb) (Kd.R_base ho0)) (Kd.R_base ho1)) (fun _ h_ => h_.1)); replace BK288 := Aside0.mk (blk_below (g := gb288) (o := .cells #[.int .u32 a0_0, .slice A0_1 l0_1.length c0_1, .slice A0_2 l0_2.length c0_2, .bool a0_3, .int .i64 a0_4] 25 (0, 0)) (bs_) hb); replace BK298 := Aside0.mk (blk_below (g := gb298) (o := .cells #[.int .u32 t289, .slice Ao31 t290.length co31, .slice Ao32 t293.length co32, .bool t296, .int .i64 t297] 25 (0, 0)) (bs_) hb); replace BK309 := Aside0.mk (blk_below (g := gb309) (o := .cells #[.int .u32 t299, .slice Ao38 t300.length co38, .slice Ao39 t303.length co39, .bool t306, .int .i64 t307] 25 (0, 0)) (bs_) hb); replace HB := hb_ hb; replace BK320 := Aside0.mk (blk_below (g := gb320) (o := .cells #[.int .u32 t310, .slice Ao47 t311.length co47, .slice Ao48 t314.length co48, .bool t317, .int .i64 t318] 25 (0, 0)) (bs_) hb); (try clear hb); (try clear hb2); (try clear hk); (try clear hi); (try clear ho0); (try clear ho1)) | ((with_reducible refine gate_dst (N := 12) rfl ?_); refine bx_ (N := 12) (cs := #[.int .u32 0, .slice none 0 0, .slice none 0 0, .bool false, .int .i64 0]) (t := 25) ?_; intro gb331 hg w51 hbox hb; have BK331 := Aside0.mk (hbox); have GW331 := ge_ hg; have GE331 := ge_ hg; have NB288_331 := nl_ BK288 hg; have NB331_288 := ng_ BK288 hg; have NB298_331 := nl_ BK298 hg; have NB331_298 := ng_ BK298 hg; have NB309_331 := nl_ BK309 hg; have NB331_309 := ng_ BK309 hg; have NB320_331 := nl_ BK320 hg; have NB331_320 := ng_ BK320 hg; replace HO292 := rb_ HO292 hb; replace HO295 := rb_ HO295 hb; replace HO302 := rb_ HO302 hb; replace HO305 := rb_ HO305 hb; replace HO313 := rb_ HO313 hb; replace HO316 := rb_ HO316 hb; replace HO324 := rb_ HO324 hb; replace HO327 := rb_ HO327 hb; replace BK288 := kb_ BK288 hb; replace BK298 := kb_ BK298 hb; replace BK309 := kb_ BK309 hb; replace BK320 := kb_ BK320 hb; replace HB := hb_ hb; clear hb hbox hg; have hnb52 := NB331_288.out; have hnc52 := NB288_331.out; have hnb53 := NB331_298.out; have hnc53 := NB298_331.out; have hnb54 := NB331_309.out; have hnc54 := NB309_331.out; have hnb55 := NB331_320.out; have hnc55 := NB320_331.out; obtain ⟨hcz56_0, hcz56_1, hcz56_2, hcz56_3, hcz56_4⟩ := cl5_ BK331; obtain ⟨hfz56_0, hfz56_1, hfz56_2, hfz56_3, hfz56_4⟩ := fz5_ BK331; obtain ⟨Ao57, co57, eo57⟩ := Kd.R_slice HO324.out; subst eo57; obtain ⟨Ao58, co58, eo58⟩ := Kd.R_slice HO327.out; subst eo58; obtain ⟨hcz59_0, hcz59_1, hcz59_2, hcz59_3, hcz59_4⟩ := cl5_ BK288; obtain ⟨hfz59_0, hfz59_1, hfz59_2, hfz59_3, hfz59_4⟩ := fz5_ BK288) | ((with_reducible refine gate_callee (f := 16) rfl ?_); refine gl_ (some 43) Tryd.func16 #[.agg #[.int .u32 a0_0, .slice A0_1 l0_1.length c0_1, .slice A0_2 l0_2.length c0_2, .bool a0_3, .int .i64 a0_4]] ?_; (with_reducible refine (cambiumref03_Flush.calls k a0_0 _ _ l0_1 _ _ l0_2 a0_3 a0_4 t332 t333 t336 t339 t340 t341 _ ?side1 ?side2 ?side3 ?side4 A8.out).mono ?_); (case side1 => exact Kd.C_below HR0_1.out bel_); (case side2 => exact HC0_1.out); (case side3 => exact Kd.C_below HR0_2.out bel_); (case side4 => exact HC0_2.out); rintro e w60 ⟨v334, v337, rfl, ho0, ho1, hb⟩; refine ⟨_, rfl, ?_⟩; have HO335 := Aside0.mk (Kd.R_lower (Kd.R_new' (Kd.R_new' (Kd.R_new' (Kd.R_new' (Kd.R_new' (Kd.R_new' (Kd.R_new' (Kd.R_new' ho0 (Kd.R_lt (rw_ HO292))) (Kd.R_lt (rw_ HO295))) (Kd.R_lt (rw_ HO302))) (Kd.R_lt (rw_ HO305))) (Kd.R_lt (rw_ HO313))) (Kd.R_lt (rw_ HO316))) (Kd.R_lt (rw_ HO324))) (Kd.R_lt (rw_ HO327))) (below_size bel_)); have HO338 := Aside0.mk (Kd.R_lower (Kd.R_new' (Kd.R_new' (Kd.R_new' (Kd.R_new' (Kd.R_new' (Kd.R_new' (Kd.R_new' (Kd.R_new' ho1 (Kd.R_lt (rw_ HO292))) (Kd.R_lt (rw_ HO295))) (Kd.R_lt (rw_ HO302))) (Kd.R_lt (rw_ HO305))) (Kd.R_lt (rw_ HO313))) (Kd.R_lt (rw_ HO316))) (Kd.R_lt (rw_ HO324))) (Kd.R_lt (rw_ HO327))) (below_size bel_)); replace HO292 := Aside0.mk (Kd.R_mono (Kd.R_told (Kd.R_told (Kd.R_old (rw_ HO292) hb) (Kd.R_base ho0)) (Kd.R_base ho1)) (fun _ h_ => h_.1)); replace HO295 := Aside0.mk (Kd.R_mono (Kd.R_told (Kd.R_told (Kd.R_old (rw_ HO295) hb) (Kd.R_base ho0)) (Kd.R_base ho1)) (fun _ h_ => h_.1)); replace HO302 := Aside0.mk (Kd.R_mono (Kd.R_told (Kd.R_told (Kd.R_old (rw_ HO302) hb) (Kd.R_base ho0)) (Kd.R_base ho1)) (fun _ h_ => h_.1)); replace HO305 := Aside0.mk (Kd.R_mono (Kd.R_told (Kd.R_told (Kd.R_old (rw_ HO305) hb) (Kd.R_base ho0)) (Kd.R_base ho1)) (fun _ h_ => h_.1)); replace HO313 := Aside0.mk (Kd.R_mono (Kd.R_told (Kd.R_told (Kd.R_old (rw_ HO313) hb) (Kd.R_base ho0)) (Kd.R_base ho1)) (fun _ h_ => h_.1)); replace HO316 := Aside0.mk (Kd.R_mono (Kd.R_told (Kd.R_told (Kd.R_old (rw_ HO316) hb) (Kd.R_base ho0)) (Kd.R_base ho1)) (fun _ h_ => h_.1)); replace HO324 := Aside0.mk (Kd.R_mono (Kd.R_told (Kd.R_told (Kd.R_old (rw_ HO324) hb) (Kd.R_base ho0)) (Kd.R_base ho1)) (fun _ h_ => h_.1)); replace HO327 := Aside0.mk (Kd.R_mono (Kd.R_told (Kd.R_told (Kd.R_old (rw_ HO327) hb) (Kd.R_base ho0)) (Kd.R_base ho1)) (fun _ h_ => h_.1)); replace BK288 := Aside0.mk (blk_below (g := gb288) (o := .cells #[.int .u32 a0_0, .slice A0_1 l0_1.length c0_1, .slice A0_2 l0_2.length c0_2, .bool a0_3, .int .i64 a0_4] 25 (0, 0)) (bs_) hb); replace BK298 := Aside0.mk (blk_below (g := gb298) (o := .cells #[.int .u32 t289, .slice Ao31 t290.length co31, .slice Ao32 t293.length co32, .bool t296, .int .i64 t297] 25 (0, 0)) (bs_) hb); replace BK309 := Aside0.mk (blk_below (g := gb309) (o := .cells #[.int .u32 t299, .slice Ao38 t300.length co38, .slice Ao39 t303.length co39, .bool t306, .int .i64 t307] 25 (0, 0)) (bs_) hb); replace BK320 := Aside0.mk (blk_below (g := gb320) (o := .cells #[.int .u32 t310, .slice Ao47 t311.length co47, .slice Ao48 t314.length co48, .bool t317, .int .i64 t318] 25 (0, 0)) (bs_) hb); replace HB := hb_ hb; replace BK331 := Aside0.mk (blk_below (g := gb331) (o := .cells #[.int .u32 t321, .slice Ao57 t322.length co57, .slice Ao58 t325.length co58, .bool t328, .int .i64 t329] 25 (0, 0)) (bs_) hb); (try clear hb); (try clear hb2); (try clear hk); (try clear hi); (try clear ho0); (try clear ho1)) | ((with_reducible refine gate_dst (N := 14) rfl ?_); refine bx_ (N := 14) (cs := #[.int .u32 0, .slice none 0 0, .slice none 0 0, .bool false, .int .i64 0]) (t := 25) ?_; intro gb342 hg w61 hbox hb; have BK342 := Aside0.mk (hbox); have GW342 := ge_ hg; have GE342 := ge_ hg; have NB288_342 := nl_ BK288 hg; have NB342_288 := ng_ BK288 hg; have NB298_342 := nl_ BK298 hg; have NB342_298 := ng_ BK298 hg; have NB309_342 := nl_ BK309 hg; have NB342_309 := ng_ BK309 hg; have NB320_342 := nl_ BK320 hg; have NB342_320 := ng_ BK320 hg; have NB331_342 := nl_ BK331 hg; have NB342_331 := ng_ BK331 hg; replace HO292 := rb_ HO292 hb; replace HO295 := rb_ HO295 hb; replace HO302 := rb_ HO302 hb; replace HO305 := rb_ HO305 hb; replace HO313 := rb_ HO313 hb; replace HO316 := rb_ HO316 hb; replace HO324 := rb_ HO324 hb; replace HO327 := rb_ HO327 hb; replace HO335 := rb_ HO335 hb; replace HO338 := rb_ HO338 hb; replace BK288 := kb_ BK288 hb; replace BK298 := kb_ BK298 hb; replace BK309 := kb_ BK309 hb; replace BK320 := kb_ BK320 hb; replace BK331 := kb_ BK331 hb; replace HB := hb_ hb; clear hb hbox hg; have hnb62 := NB342_288.out; have hnc62 := NB288_342.out; have hnb63 := NB342_298.out; have hnc63 := NB298_342.out; have hnb64 := NB342_309.out; have hnc64 := NB309_342.out; have hnb65 := NB342_320.out; have hnc65 := NB320_342.out; have hnb66 := NB342_331.out; have hnc66 := NB331_342.out; obtain ⟨hcz67_0, hcz67_1, hcz67_2, hcz67_3, hcz67_4⟩ := cl5_ BK342; obtain ⟨hfz67_0, hfz67_1, hfz67_2, hfz67_3, hfz67_4⟩ := fz5_ BK342; obtain ⟨Ao68, co68, eo68⟩ := Kd.R_slice HO335.out; subst eo68; obtain ⟨Ao69, co69, eo69⟩ := Kd.R_slice HO338.out; subst eo69; obtain ⟨hcz70_0, hcz70_1, hcz70_2, hcz70_3, hcz70_4⟩ := cl5_ BK298; obtain ⟨hfz70_0, hfz70_1, hfz70_2, hfz70_3, hfz70_4⟩ := fz5_ BK298) | ((with_reducible refine gate_callee (f := 17) rfl ?_); refine gl_ (some 49) Tryd.func17 #[.agg #[.int .u32 t289, .slice Ao31 t290.length co31, .slice Ao32 t293.length co32, .bool t296, .int .i64 t297], .int .u32 a1] ?_; (with_reducible refine (dev_Read.calls k t289 _ _ t290 _ _ t293 t296 t297 a1 t343 t344 _ ?side1 ?side2 ?side3 ?side4 A9.out).mono ?_); (case side1 => exact (Kd.R_reads' (rw_ HO292)).2.2); (case side2 => exact (Kd.R_reads' HO292.out).2.1); (case side3 => exact (Kd.R_reads' (rw_ HO295)).2.2); (case side4 => exact (Kd.R_reads' HO295.out).2.1); rintro e w71 ⟨rfl, hb⟩; refine ⟨_, rfl, ?_⟩; replace HO292 := Aside0.mk (Kd.R_below (rw_ HO292) hb); replace HO295 := Aside0.mk (Kd.R_below (rw_ HO295) hb); replace HO302 := Aside0.mk (Kd.R_below (rw_ HO302) hb); replace HO305 := Aside0.mk (Kd.R_below (rw_ HO305) hb); replace HO313 := Aside0.mk (Kd.R_below (rw_ HO313) hb); replace HO316 := Aside0.mk (Kd.R_below (rw_ HO316) hb); replace HO324 := Aside0.mk (Kd.R_below (rw_ HO324) hb); replace HO327 := Aside0.mk (Kd.R_below (rw_ HO327) hb); replace HO335 := Aside0.mk (Kd.R_below (rw_ HO335) hb); replace HO338 := Aside0.mk (Kd.R_below (rw_ HO338) hb); replace BK288 := Aside0.mk (blk_below (g := gb288) (o := .cells #[.int .u32 a0_0, .slice A0_1 l0_1.length c0_1, .slice A0_2 l0_2.length c0_2, .bool a0_3, .int .i64 a0_4] 25 (0, 0)) (bs_) hb); replace BK298 := Aside0.mk (blk_below (g := gb298) (o := .cells #[.int .u32 t289, .slice Ao31 t290.length co31, .slice Ao32 t293.length co32, .bool t296, .int .i64 t297] 25 (0, 0)) (bs_) hb); replace BK309 := Aside0.mk (blk_below (g := gb309) (o := .cells #[.int .u32 t299, .slice Ao38 t300.length co38, .slice Ao39 t303.length co39, .bool t306, .int .i64 t307] 25 (0, 0)) (bs_) hb); replace BK320 := Aside0.mk (blk_below (g := gb320) (o := .cells #[.int .u32 t310, .slice Ao47 t311.length co47, .slice Ao48 t314.length co48, .bool t317, .int .i64 t318] 25 (0, 0)) (bs_) hb); replace BK331 := Aside0.mk (blk_below (g := gb331) (o := .cells #[.int .u32 t321, .slice Ao57 t322.length co57, .slice Ao58 t325.length co58, .bool t328, .int .i64 t329] 25 (0, 0)) (bs_) hb); replace HB := hb_ hb; replace BK342 := Aside0.mk (blk_below (g := gb342) (o := .cells #[.int .u32 t332, .slice Ao68 t333.length co68, .slice Ao69 t336.length co69, .bool t339, .int .i64 t340] 25 (0, 0)) (bs_) hb); (try clear hb); (try clear hb2); (try clear hk); (try clear hi); obtain ⟨hcz72_0, hcz72_1, hcz72_2, hcz72_3, hcz72_4⟩ := cl5_ BK288; obtain ⟨hfz72_0, hfz72_1, hfz72_2, hfz72_3, hfz72_4⟩ := fz5_ BK288) | ((with_reducible refine gate_callee (f := 18) rfl ?_); refine gl_ (some 55) Tryd.func18 #[.agg #[.int .u32 a0_0, .slice A0_1 l0_1.length c0_1, .slice A0_2 l0_2.length c0_2, .bool a0_3, .int .i64 a0_4], .int .u32 a1] ?_; (with_reducible refine (cambiumref03_Read.calls k a0_0 _ _ l0_1 _ _ l0_2 a0_3 a0_4 a1 t345 t346 _ ?side1 ?side2 ?side3 ?side4 A10.out).mono ?_); (case side1 => exact cb_ HR0_1); (case side2 => exact HC0_1.out); (case side3 => exact cb_ HR0_2); (case side4 => exact HC0_2.out); rintro e w73 ⟨rfl, hb⟩; refine ⟨_, rfl, ?_⟩; replace HO292 := rb_ HO292 hb; replace HO295 := rb_ HO295 hb; replace HO302 := rb_ HO302 hb; replace HO305 := rb_ HO305 hb; replace HO313 := rb_ HO313 hb; replace HO316 := rb_ HO316 hb; replace HO324 := rb_ HO324 hb; replace HO327 := rb_ HO327 hb; replace HO335 := rb_ HO335 hb; replace HO338 := rb_ HO338 hb; replace BK288 := kb_ BK288 hb; replace BK298 := kb_ BK298 hb; replace BK309 := kb_ BK309 hb; replace BK320 := kb_ BK320 hb; replace BK331 := kb_ BK331 hb; replace BK342 := kb_ BK342 hb; replace HB := hb_ hb; (try clear hb); (try clear hb2); (try clear hk); (try clear hi)))
                  replace HO292 := Aside0.mk (Kd.R_drew HO292.out)
                  replace HO295 := Aside0.mk (Kd.R_drew HO295.out)
                  replace HO302 := Aside0.mk (Kd.R_drew HO302.out)
                  replace HO305 := Aside0.mk (Kd.R_drew HO305.out)
                  replace HO313 := Aside0.mk (Kd.R_drew HO313.out)
                  replace HO316 := Aside0.mk (Kd.R_drew HO316.out)
                  replace HO324 := Aside0.mk (Kd.R_drew HO324.out)
                  replace HO327 := Aside0.mk (Kd.R_drew HO327.out)
                  replace HO335 := Aside0.mk (Kd.R_drew HO335.out)
                  replace HO338 := Aside0.mk (Kd.R_drew HO338.out)
                  replace BK288 := Aside0.mk (blk_drew BK288.out)
                  replace BK298 := Aside0.mk (blk_drew BK298.out)
                  replace BK309 := Aside0.mk (blk_drew BK309.out)
                  replace BK320 := Aside0.mk (blk_drew BK320.out)
                  replace BK331 := Aside0.mk (blk_drew BK331.out)
                  replace BK342 := Aside0.mk (blk_drew BK342.out)
                  replace HB := Aside0.mk (below_drew1 HB.out)
                  refine start_ (n := 44) (S := fun w' => w'.cell? ⟨gb309, 0, none⟩ = some (.int .u32 t299) ∧ w'.cell? ⟨gb309, 1, none⟩ = some (.slice Ao38 t300.length co38) ∧ w'.cell? ⟨gb309, 2, none⟩ = some (.slice Ao39 t303.length co39) ∧ w'.cell? ⟨gb309, 3, none⟩ = some (.bool t306) ∧ w'.cell? ⟨gb309, 4, none⟩ = some (.int .i64 t307) ∧ w'.cell? ⟨gb320, 0, none⟩ = some (.int .u32 t310) ∧ w'.cell? ⟨gb320, 1, none⟩ = some (.slice Ao47 t311.length co47) ∧ w'.cell? ⟨gb320, 2, none⟩ = some (.slice Ao48 t314.length co48) ∧ w'.cell? ⟨gb320, 3, none⟩ = some (.bool t317) ∧ w'.cell? ⟨gb320, 4, none⟩ = some (.int .i64 t318) ∧ w'.cell? ⟨gb331, 0, none⟩ = some (.int .u32 t321) ∧ w'.cell? ⟨gb331, 1, none⟩ = some (.slice Ao57 t322.length co57) ∧ w'.cell? ⟨gb331, 2, none⟩ = some (.slice Ao58 t325.length co58) ∧ w'.cell? ⟨gb331, 3, none⟩ = some (.bool t328) ∧ w'.cell? ⟨gb331, 4, none⟩ = some (.int .i64 t329) ∧ w'.cell? ⟨gb342, 0, none⟩ = some (.int .u32 t332) ∧ w'.cell? ⟨gb342, 1, none⟩ = some (.slice Ao68 t333.length co68) ∧ w'.cell? ⟨gb342, 2, none⟩ = some (.slice Ao69 t336.length co69) ∧ w'.cell? ⟨gb342, 3, none⟩ = some (.bool t339) ∧ w'.cell? ⟨gb342, 4, none⟩ = some (.int .i64 t340) ∧ w'.cell? ⟨gb298, 0, none⟩ = some (.int .u32 t289) ∧ w'.cell? ⟨gb298, 1, none⟩ = some (.slice Ao31 t290.length co31) ∧ w'.cell? ⟨gb298, 2, none⟩ = some (.slice Ao32 t293.length co32) ∧ w'.cell? ⟨gb298, 3, none⟩ = some (.bool t296) ∧ w'.cell? ⟨gb298, 4, none⟩ = some (.int .i64 t297) ∧ w'.cell? ⟨gb288, 0, none⟩ = some (.int .u32 a0_0) ∧ w'.cell? ⟨gb288, 1, none⟩ = some (.slice A0_1 l0_1.length c0_1) ∧ w'.cell? ⟨gb288, 2, none⟩ = some (.slice A0_2 l0_2.length c0_2) ∧ w'.cell? ⟨gb288, 3, none⟩ = some (.bool a0_3) ∧ w'.cell? ⟨gb288, 4, none⟩ = some (.int .i64 a0_4)) (ds := []) #[false, false, false, false, false, false, false, false, false, false, false, false, false, false, false, false, false, false, false, false, false, false, false, false, false, false, false, false, false, false, false, false, false, false, false, false, false, false, false, false, false, false, false, false] (by kernel_rfl) rfl rfl hc_ (fun hHeld => ?_); refine with_tabW cambiumlaw03_DevWrites.tab8 cambiumlaw03_DevWrites.bits8 (fun HT_ HW_ => ?_)
                  generalize w73.drew = w74 at HO292 HO295 HO302 HO305 HO313 HO316 HO324 HO327 HO335 HO338 BK288 BK298 BK309 BK320 BK331 BK342 HB hHeld ⊢
                  refine on_ 0 58 (fun K hK => ?_)
                  refine goes_ Tryd.func19 (by kernel_rfl) rfl #[] (by rfl) rfl rfl (by (try simp only [List.map_toArray, List.map_cons, List.map_nil]); first | done | rfl | (simp only [List.length_drop, List.length_take]; rfl)) ?_
                  with_reducible refine (cambiumlaw03_lives.calls k  true _ A11.out).mono ?_
                  rintro e w75 ⟨rfl, hb⟩
                  refine ⟨_, rfl, ?_⟩
                  replace HO292 := rb_ HO292 hb
                  replace HO295 := rb_ HO295 hb
                  replace HO302 := rb_ HO302 hb
                  replace HO305 := rb_ HO305 hb
                  replace HO313 := rb_ HO313 hb
                  replace HO316 := rb_ HO316 hb
                  replace HO324 := rb_ HO324 hb
                  replace HO327 := rb_ HO327 hb
                  replace HO335 := rb_ HO335 hb
                  replace HO338 := rb_ HO338 hb
                  replace BK288 := kb_ BK288 hb
                  replace BK298 := kb_ BK298 hb
                  replace BK309 := kb_ BK309 hb
                  replace BK320 := kb_ BK320 hb
                  replace BK331 := kb_ BK331 hb
                  replace BK342 := kb_ BK342 hb
                  replace HB := hb_ hb
                  (try clear hb)
                  (try clear hb2)
                  (try clear hk)
                  (try clear hi)
                  refine hK.out _ _ hc_ (fun hHeld => ?_)
                  clear hK K
                  refine nm_ 58 ?_
                  refine pu_ 1 59 ?_
                  refine tk30_ 2 60 ?_
                  refine tk30_ 3 61 ?_
                  refine on_ 4 62 (fun K hK => ?_)
                  refine goes_ Tryd.func20 (by kernel_rfl) rfl #[.agg #[.int .u32 t299, .slice Ao38 t300.length co38, .slice Ao39 t303.length co39, .bool t306, .int .i64 t307], .agg #[.int .u32 t310, .slice Ao47 t311.length co47, .slice Ao48 t314.length co48, .bool t317, .int .i64 t318]] (by rfl) rfl rfl (by (try simp only [List.map_toArray, List.map_cons, List.map_nil]); first | done | rfl | (simp only [List.length_drop, List.length_take]; rfl)) ?_
                  with_reducible refine (cambiumref03_Same.calls k t299 _ _ t300 _ _ t303 t306 t307 t310 _ _ t311 _ _ t314 t317 t318 true _ ?side1 ?side2 ?side3 ?side4 ?side5 ?side6 ?side7 ?side8 A13.out).mono ?_
                  (case side1 => exact cr_ HO302)
                  (case side2 => exact (Kd.R_reads' HO302.out).2.1)
                  (case side3 => exact cr_ HO305)
                  (case side4 => exact (Kd.R_reads' HO305.out).2.1)
                  (case side5 => exact cr_ HO313)
                  (case side6 => exact (Kd.R_reads' HO313.out).2.1)
                  (case side7 => exact cr_ HO316)
                  (case side8 => exact (Kd.R_reads' HO316.out).2.1)
                  rintro e w76 ⟨rfl, hb⟩
                  refine ⟨_, rfl, ?_⟩
                  replace HO292 := rb_ HO292 hb
                  replace HO295 := rb_ HO295 hb
                  replace HO302 := rb_ HO302 hb
                  replace HO305 := rb_ HO305 hb
                  replace HO313 := rb_ HO313 hb
                  replace HO316 := rb_ HO316 hb
                  replace HO324 := rb_ HO324 hb
                  replace HO327 := rb_ HO327 hb
                  replace HO335 := rb_ HO335 hb
                  replace HO338 := rb_ HO338 hb
                  replace BK288 := kb_ BK288 hb
                  replace BK298 := kb_ BK298 hb
                  replace BK309 := kb_ BK309 hb
                  replace BK320 := kb_ BK320 hb
                  replace BK331 := kb_ BK331 hb
                  replace BK342 := kb_ BK342 hb
                  replace HB := hb_ hb
                  (try clear hb)
                  (try clear hb2)
                  (try clear hk)
                  (try clear hi)
                  refine hK.out _ _ hc_ (fun hHeld => ?_)
                  clear hK K
                  refine nm_ 62 ?_
                  refine pu_ 5 63 ?_
                  refine pu_ 6 64 ?_
                  refine pu_ 7 65 ?_
                  refine pu_ 8 66 ?_
                  refine pu_ 9 67 ?_
                  refine pu_ 10 68 ?_
                  refine pu_ 11 69 ?_
                  refine tk30_ 12 70 ?_
                  refine tk30_ 13 71 ?_
                  refine on_ 14 72 (fun K hK => ?_)
                  refine goes_ Tryd.func20 (by kernel_rfl) rfl #[.agg #[.int .u32 t321, .slice Ao57 t322.length co57, .slice Ao58 t325.length co58, .bool t328, .int .i64 t329], .agg #[.int .u32 t332, .slice Ao68 t333.length co68, .slice Ao69 t336.length co69, .bool t339, .int .i64 t340]] (by rfl) rfl rfl (by (try simp only [List.map_toArray, List.map_cons, List.map_nil]); first | done | rfl | (simp only [List.length_drop, List.length_take]; rfl)) ?_
                  with_reducible refine (cambiumref03_Same.calls k t321 _ _ t322 _ _ t325 t328 t329 t332 _ _ t333 _ _ t336 t339 t340 true _ ?side1 ?side2 ?side3 ?side4 ?side5 ?side6 ?side7 ?side8 A16.out).mono ?_
                  (case side1 => exact cr_ HO324)
                  (case side2 => exact (Kd.R_reads' HO324.out).2.1)
                  (case side3 => exact cr_ HO327)
                  (case side4 => exact (Kd.R_reads' HO327.out).2.1)
                  (case side5 => exact cr_ HO335)
                  (case side6 => exact (Kd.R_reads' HO335.out).2.1)
                  (case side7 => exact cr_ HO338)
                  (case side8 => exact (Kd.R_reads' HO338.out).2.1)
                  rintro e w77 ⟨rfl, hb⟩
                  refine ⟨_, rfl, ?_⟩
                  replace HO292 := rb_ HO292 hb
                  replace HO295 := rb_ HO295 hb
                  replace HO302 := rb_ HO302 hb
                  replace HO305 := rb_ HO305 hb
                  replace HO313 := rb_ HO313 hb
                  replace HO316 := rb_ HO316 hb
                  replace HO324 := rb_ HO324 hb
                  replace HO327 := rb_ HO327 hb
                  replace HO335 := rb_ HO335 hb
                  replace HO338 := rb_ HO338 hb
                  replace BK288 := kb_ BK288 hb
                  replace BK298 := kb_ BK298 hb
                  replace BK309 := kb_ BK309 hb
                  replace BK320 := kb_ BK320 hb
                  replace BK331 := kb_ BK331 hb
                  replace BK342 := kb_ BK342 hb
                  replace HB := hb_ hb
                  (try clear hb)
                  (try clear hb2)
                  (try clear hk)
                  (try clear hi)
                  refine hK.out _ _ hc_ (fun hHeld => ?_)
                  clear hK K
                  refine nm_ 72 ?_
                  refine pu_ 15 73 ?_
                  refine pu_ 16 74 ?_
                  refine pu_ 17 75 ?_
                  refine pu_ 18 76 ?_
                  refine pu_ 19 77 ?_
                  refine pu_ 20 78 ?_
                  refine pu_ 21 79 ?_
                  refine pu_ 22 80 ?_
                  refine pu_ 23 81 ?_
                  refine pu_ 24 82 ?_
                  refine pu_ 25 83 ?_
                  refine pu_ 26 84 ?_
                  refine pu_ 27 85 ?_
                  refine pu_ 28 86 ?_
                  refine pu_ 29 87 ?_
                  refine pu_ 30 88 ?_
                  refine pu_ 31 89 ?_
                  refine tk30_ 32 90 ?_
                  refine tk30_ 34 92 ?_
                  refine on_ 33 91 (fun K hK => ?_)
                  refine goes_ Tryd.func21 (by kernel_rfl) rfl #[.agg #[.int .u32 t289, .slice Ao31 t290.length co31, .slice Ao32 t293.length co32, .bool t296, .int .i64 t297]] (by rfl) rfl rfl (by (try simp only [List.map_toArray, List.map_cons, List.map_nil]); first | done | rfl | (simp only [List.length_drop, List.length_take]; rfl)) ?_
                  with_reducible refine (dev_Check.calls k t289 _ _ t290 _ _ t293 t296 t297 t350 _ ?side1 ?side2 ?side3 ?side4 A21.out).mono ?_
                  (case side1 => exact cr_ HO292)
                  (case side2 => exact (Kd.R_reads' HO292.out).2.1)
                  (case side3 => exact cr_ HO295)
                  (case side4 => exact (Kd.R_reads' HO295.out).2.1)
                  rintro e w78 ⟨rfl, hb⟩
                  refine ⟨_, rfl, ?_⟩
                  replace HO292 := rb_ HO292 hb
                  replace HO295 := rb_ HO295 hb
                  replace HO302 := rb_ HO302 hb
                  replace HO305 := rb_ HO305 hb
                  replace HO313 := rb_ HO313 hb
                  replace HO316 := rb_ HO316 hb
                  replace HO324 := rb_ HO324 hb
                  replace HO327 := rb_ HO327 hb
                  replace HO335 := rb_ HO335 hb
                  replace HO338 := rb_ HO338 hb
                  replace BK288 := kb_ BK288 hb
                  replace BK298 := kb_ BK298 hb
                  replace BK309 := kb_ BK309 hb
                  replace BK320 := kb_ BK320 hb
                  replace BK331 := kb_ BK331 hb
                  replace BK342 := kb_ BK342 hb
                  replace HB := hb_ hb
                  (try clear hb)
                  (try clear hb2)
                  (try clear hk)
                  (try clear hi)
                  refine hK.out _ _ hc_ (fun hHeld => ?_)
                  clear hK K
                  refine nm_ 91 ?_
                  refine on_ 35 93 (fun K hK => ?_)
                  refine goes_ Tryd.func22 (by kernel_rfl) rfl #[.agg #[.int .u32 a0_0, .slice A0_1 l0_1.length c0_1, .slice A0_2 l0_2.length c0_2, .bool a0_3, .int .i64 a0_4]] (by rfl) rfl rfl (by (try simp only [List.map_toArray, List.map_cons, List.map_nil]); first | done | rfl | (simp only [List.length_drop, List.length_take]; rfl)) ?_
                  with_reducible refine (cambiumref03_Check.calls k a0_0 _ _ l0_1 _ _ l0_2 a0_3 a0_4 t351 _ ?side1 ?side2 ?side3 ?side4 A22.out).mono ?_
                  (case side1 => exact cb_ HR0_1)
                  (case side2 => exact HC0_1.out)
                  (case side3 => exact cb_ HR0_2)
                  (case side4 => exact HC0_2.out)
                  rintro e w79 ⟨rfl, hb⟩
                  refine ⟨_, rfl, ?_⟩
                  replace HO292 := rb_ HO292 hb
                  replace HO295 := rb_ HO295 hb
                  replace HO302 := rb_ HO302 hb
                  replace HO305 := rb_ HO305 hb
                  replace HO313 := rb_ HO313 hb
                  replace HO316 := rb_ HO316 hb
                  replace HO324 := rb_ HO324 hb
                  replace HO327 := rb_ HO327 hb
                  replace HO335 := rb_ HO335 hb
                  replace HO338 := rb_ HO338 hb
                  replace BK288 := kb_ BK288 hb
                  replace BK298 := kb_ BK298 hb
                  replace BK309 := kb_ BK309 hb
                  replace BK320 := kb_ BK320 hb
                  replace BK331 := kb_ BK331 hb
                  replace BK342 := kb_ BK342 hb
                  replace HB := hb_ hb
                  (try clear hb)
                  (try clear hb2)
                  (try clear hk)
                  (try clear hi)
                  refine hK.out _ _ hc_ (fun hHeld => ?_)
                  clear hK K
                  refine nm_ 93 ?_
                  refine pu_ 36 94 ?_
                  refine pu_ 37 95 ?_
                  refine pu_ 38 96 ?_
                  refine tk30_ 39 97 ?_
                  refine tk30_ 40 98 ?_
                  refine on_ 41 99 (fun K hK => ?_)
                  refine goes_ Tryd.func20 (by kernel_rfl) rfl #[.agg #[.int .u32 t289, .slice Ao31 t290.length co31, .slice Ao32 t293.length co32, .bool t296, .int .i64 t297], .agg #[.int .u32 a0_0, .slice A0_1 l0_1.length c0_1, .slice A0_2 l0_2.length c0_2, .bool a0_3, .int .i64 a0_4]] (by rfl) rfl rfl (by (try simp only [List.map_toArray, List.map_cons, List.map_nil]); first | done | rfl | (simp only [List.length_drop, List.length_take]; rfl)) ?_
                  with_reducible refine (cambiumref03_Same.calls k t289 _ _ t290 _ _ t293 t296 t297 a0_0 _ _ l0_1 _ _ l0_2 a0_3 a0_4 t352 _ ?side1 ?side2 ?side3 ?side4 ?side5 ?side6 ?side7 ?side8 A24.out).mono ?_
                  (case side1 => exact cr_ HO292)
                  (case side2 => exact (Kd.R_reads' HO292.out).2.1)
                  (case side3 => exact cr_ HO295)
                  (case side4 => exact (Kd.R_reads' HO295.out).2.1)
                  (case side5 => exact cb_ HR0_1)
                  (case side6 => exact HC0_1.out)
                  (case side7 => exact cb_ HR0_2)
                  (case side8 => exact HC0_2.out)
                  rintro e w80 ⟨rfl, hb⟩
                  refine ⟨_, rfl, ?_⟩
                  replace HO292 := rb_ HO292 hb
                  replace HO295 := rb_ HO295 hb
                  replace HO302 := rb_ HO302 hb
                  replace HO305 := rb_ HO305 hb
                  replace HO313 := rb_ HO313 hb
                  replace HO316 := rb_ HO316 hb
                  replace HO324 := rb_ HO324 hb
                  replace HO327 := rb_ HO327 hb
                  replace HO335 := rb_ HO335 hb
                  replace HO338 := rb_ HO338 hb
                  replace BK288 := kb_ BK288 hb
                  replace BK298 := kb_ BK298 hb
                  replace BK309 := kb_ BK309 hb
                  replace BK320 := kb_ BK320 hb
                  replace BK331 := kb_ BK331 hb
                  replace BK342 := kb_ BK342 hb
                  replace HB := hb_ hb
                  (try clear hb)
                  (try clear hb2)
                  (try clear hk)
                  (try clear hi)
                  refine hK.out _ _ hc_ (fun hHeld => ?_)
                  clear hK K
                  refine nm_ 99 ?_
                  refine pu_ 42 100 ?_
                  refine pu_ 43 6 ?_
                  refine done_ (done_of HT_.out (by kernel_rfl)) ?_
                  try go_wp2
                  go_ret
                  exact ⟨by first | rfl | (simp [errW_none, errW_some] <;> rfl) | (simp [*, errW_none, errW_some] <;> rfl), bel_⟩
                rw [if_neg c23] at H
                have c23b0 : (t350 == t351) = false := beq_eq_false_iff_ne.mpr c23
                have c23b1 : (t350 != t351) = true := bne_iff_ne.mpr c23
                exact absurd ((Option.some.inj H).trans HT_.out) (by simp)
              rw [if_neg c20] at H
              have c20b0 : (t344 == t346) = false := beq_eq_false_iff_ne.mpr c20
              have c20b1 : (t344 != t346) = true := bne_iff_ne.mpr c20
              exact absurd ((Option.some.inj H).trans HT_.out) (by simp)
            rw [if_neg c19] at H
            have c19b0 : (t343.toList == t345.toList) = false := beq_eq_false_iff_ne.mpr c19
            have c19b1 : (t343.toList != t345.toList) = true := bne_iff_ne.mpr c19
            exact absurd ((Option.some.inj H).trans HT_.out) (by simp)
          rw [if_neg c18] at H
          have c18b0 : (t330 == t341) = false := beq_eq_false_iff_ne.mpr c18
          have c18b1 : (t330 != t341) = true := bne_iff_ne.mpr c18
          exact absurd ((Option.some.inj H).trans HT_.out) (by simp)
        replace c17 := Bool.eq_false_iff.mpr c17
        subst c17
        have H1 : (some false) = some r := by rw [if_neg (show ¬ (false = true) by decide)] at H; exact H
        clear H
        have H := H1
        clear H1
        exact absurd ((Option.some.inj H).trans HT_.out) (by simp)
      rw [if_neg c15] at H
      have c15b0 : (t308 == t319) = false := beq_eq_false_iff_ne.mpr c15
      have c15b1 : (t308 != t319) = true := bne_iff_ne.mpr c15
      exact absurd ((Option.some.inj H).trans HT_.out) (by simp)
    replace c14 := Bool.eq_false_iff.mpr c14
    subst c14
    have H1 : (some false) = some r := by rw [if_neg (show ¬ (false = true) by decide)] at H; exact H
    clear H
    have H := H1
    clear H1
    exact absurd ((Option.some.inj H).trans HT_.out) (by simp)
  replace c12 := Bool.eq_false_iff.mpr c12
  subst c12
  have H1 : (some false) = some r := by rw [if_neg (show ¬ (false = true) by decide)] at H; exact H
  clear H
  have H := H1
  clear H1
  exact absurd ((Option.some.inj H).trans HT_.out) (by simp)

end Go.Proofs.YtcphflfjhkeooaaDoor.Z
end

section
-- Printed by a program of this session (mp.py) out of the translation.
namespace Go.Proofs.YtcphflfjhkeooaaDoor.Z
open Go.RowKit Go.Proofs.YtcphflfjhkeooaaDoorW.PrintWords Go.Proofs.YtcphflfjhkeooaaDoorW.PrintLast Go.Proofs.YtcphflfjhkeooaaDoorW.PrintMore
attribute [local go_sem] max2_int min2_int max_two min_two max_three min_three max_four min_four   -- for this text's walks alone
set_option linter.unusedVariables false
set_option linter.unusedSimpArgs false

/-! ### cambiumref03_Crash: function 25 -/
def cambiumref03_Crash.l0 : Nat → List Bool → List (S39) → Int → Int → Int → List (S39) → List (S39) → Bool → Int → Option (Int × (List (S39)) × (List (S39)) × Bool × Int × Int)
  | 0, _, _, _, _, _, _, _, _, _ => none
  | k + 1, x1, x15, x16, x17, x354000, x354001, x354002, x354003, x354004 => if x17 < x16 then (if 0 ≤ x17 then (if x17 < (x15.length : Int) then (if x17 < (x1.length : Int) then (if rdOf false x1 x17 = true then ((cambiumref03_put.f k x354001 ((rd_T39 x15 x17).f0) ((rd_T39 x15 x17).f1)).bind fun t368 => (cambiumref03_Crash.l0 k x1 x15 x16 (wrap64 (x17 + 1)) x354000 t368 x354002 x354003 x354004)) else (cambiumref03_Crash.l0 k x1 x15 x16 (wrap64 (x17 + 1)) x354000 x354001 x354002 x354003 x354004)) else (cambiumref03_Crash.l0 k x1 x15 x16 (wrap64 (x17 + 1)) x354000 x354001 x354002 x354003 x354004)) else (none)) else (none)) else (some (x354000, x354001, ([] : List (S39)), false, (-1), 0))
def cambiumref03_Crash.f (k : Nat) (a0_0 : Int) (l0_1 : List (S39)) (l0_2 : List (S39)) (a0_3 : Bool) (a0_4 : Int) (l1 : List Bool) : Option (Int × (List (S39)) × (List (S39)) × Bool × Int × Int) := (cambiumref03_Check.f k a0_0 l0_1 l0_2 a0_3 a0_4).bind fun t355 => (if t355 = 0 then ((cambiumref03_Copy.f a0_0 l0_1 l0_2 a0_3 a0_4).bind fun bt356 => (cambiumref03_Crash.l0 k l1 bt356.2.2.1 (bt356.2.2.1.length : Int) 0 bt356.1 bt356.2.1 bt356.2.2.1 bt356.2.2.2.1 bt356.2.2.2.2)) else (some (0, ([] : List (S39)), ([] : List (S39)), false, 0, 7)))
theorem cambiumref03_Crash.mono_l : ∀ k, (∀ y0 y1 y2 y3 y4 y5 y6 y7 y8, LeO (cambiumref03_Crash.l0 k y0 y1 y2 y3 y4 y5 y6 y7 y8) (cambiumref03_Crash.l0 (k + 1) y0 y1 y2 y3 y4 y5 y6 y7 y8))
  | 0 => fun _ _ _ _ _ _ _ _ _ r h => by simp [cambiumref03_Crash.l0] at h
  | k + 1 => by
    have ih0 := cambiumref03_Crash.mono_l k
    · intro y0 y1 y2 y3 y4 y5 y6 y7 y8
      unfold cambiumref03_Crash.l0
      repeat' first
      | (with_reducible exact ih0 _ _ _ _ _ _ _ _ _)
      | (with_reducible exact cambiumref03_Check.mono _ _ _ _ _ _)
      | (with_reducible exact cambiumref03_put.mono _ _ _ _)
      | (with_reducible exact LeO.refl _)
      | (with_reducible exact LeO.none _)
      | (with_reducible refine LeO.ite ?_ ?_)
      | (with_reducible refine LeO.bind ?_ (fun _ => ?_))
      | exact ih0 _ _ _ _ _ _ _ _ _
      | exact cambiumref03_Check.mono _ _ _ _ _ _
      | exact cambiumref03_put.mono _ _ _ _
      | exact LeO.none _
      | refine LeO.ite ?_ ?_
      | refine LeO.bind ?_ (fun _ => ?_)
theorem cambiumref03_Crash.mono : ∀ a0 a1 a2 a3 a4 a5 k, LeO (cambiumref03_Crash.f k a0 a1 a2 a3 a4 a5) (cambiumref03_Crash.f (k + 1) a0 a1 a2 a3 a4 a5) := by
  intro a0 a1 a2 a3 a4 a5 k
  have ih0 := cambiumref03_Crash.mono_l k
  unfold cambiumref03_Crash.f
  repeat' first
      | (with_reducible exact ih0 _ _ _ _ _ _ _ _ _)
      | (with_reducible exact cambiumref03_Check.mono _ _ _ _ _ _)
      | (with_reducible exact cambiumref03_put.mono _ _ _ _)
      | (with_reducible exact LeO.refl _)
      | (with_reducible exact LeO.none _)
      | (with_reducible refine LeO.ite ?_ ?_)
      | (with_reducible refine LeO.bind ?_ (fun _ => ?_))
      | exact ih0 _ _ _ _ _ _ _ _ _
      | exact cambiumref03_Check.mono _ _ _ _ _ _
      | exact cambiumref03_put.mono _ _ _ _
      | exact LeO.none _
      | refine LeO.ite ?_ ?_
      | refine LeO.bind ?_ (fun _ => ?_)
set_option maxHeartbeats 8000000 in
set_option maxRecDepth 100000 in
theorem cambiumref03_Crash.calls (k : Nat) (a0_0 : Int) (A0_1 : Option Addr) (c0_1 : Nat) (l0_1 : List (S39)) (A0_2 : Option Addr) (c0_2 : Nat) (l0_2 : List (S39)) (a0_3 : Bool) (a0_4 : Int) (A1 : Option Addr) (c1 : Nat) (l1 : List Bool) (r1 : Int) (r2 : List (S39)) (r3 : List (S39)) (r4 : Bool) (r5 : Int) (r6 : Int) (w : World) (hr0_1 : Kd.C k39 w A0_1 l0_1.length l0_1) (hc0_1 : l0_1.length ≤ c0_1) (hr0_2 : Kd.C k39 w A0_2 l0_2.length l0_2) (hc0_2 : l0_2.length ≤ c0_2) (hr1 : Kd.C Kd.bool w A1 l1.length l1) (hc1 : l1.length ≤ c1) (h : cambiumref03_Crash.f k a0_0 l0_1 l0_2 a0_3 a0_4 l1 = some (r1, r2, r3, r4, r5, r6)) :
    Calls Tryd.prog 25 #[.agg #[.int .u32 a0_0, .slice A0_1 l0_1.length c0_1, .slice A0_2 l0_2.length c0_2, .bool a0_3, .int .i64 a0_4], .slice A1 l1.length c1] w fun e w' => ∃ v1_ v2_ : Value, e = .returned (.tuple #[.agg #[.int .u32 r1, v1_, v2_, .bool r4, .int .i64 r5], .int .i64 r6]) ∧ Kd.R k39 39 w' w.heap.size (fun k_ => some k_ ≠ (v2_ : Value).ownBlock) v1_ r2 ∧ Kd.R k39 39 w' w.heap.size (fun k_ => some k_ ≠ (v1_ : Value).ownBlock) v2_ r3 ∧ Below w.heap.size w w' := by
  have hu25 := Tryd.underlying25
  have hu39 := Tryd.underlying39
  have HR0_1 := Aside0.mk hr0_1
  have HC0_1 := Aside0.mk hc0_1
  clear hr0_1 hc0_1
  have HR0_2 := Aside0.mk hr0_2
  have HC0_2 := Aside0.mk hc0_2
  clear hr0_2 hc0_2
  have HR1 := Aside0.mk hr1
  have HC1 := Aside0.mk hc1
  clear hr1 hc1
  have HB := Aside0.mk (Below.refl w.heap.size w)
  have H : ((cambiumref03_Check.f k a0_0 l0_1 l0_2 a0_3 a0_4).bind fun t355 => (if t355 = 0 then ((cambiumref03_Copy.f a0_0 l0_1 l0_2 a0_3 a0_4).bind fun bt356 => (cambiumref03_Crash.l0 k l1 bt356.2.2.1 (bt356.2.2.1.length : Int) 0 bt356.1 bt356.2.1 bt356.2.2.1 bt356.2.2.2.1 bt356.2.2.2.2)) else (some (0, ([] : List (S39)), ([] : List (S39)), false, 0, 7)))) = some (r1, r2, r3, r4, r5, r6) := h
  clear h
  replace H := Option.bind_eq_some_iff.mp H
  obtain ⟨t355, A30, H⟩ := H
  replace H : (if t355 = 0 then ((cambiumref03_Copy.f a0_0 l0_1 l0_2 a0_3 a0_4).bind fun bt356 => (cambiumref03_Crash.l0 k l1 bt356.2.2.1 (bt356.2.2.1.length : Int) 0 bt356.1 bt356.2.1 bt356.2.2.1 bt356.2.2.2.1 bt356.2.2.2.2)) else (some (0, ([] : List (S39)), ([] : List (S39)), false, 0, 7))) = some (r1, r2, r3, r4, r5, r6) := H
  have A3 := Aside0.mk A30
  clear A30
  by_cases c4 : t355 = 0
  · rw [if_pos c4] at H
    have c4b0 : (t355 == 0) = true := beq_iff_eq.mpr c4
    have c4b1 : (t355 != 0) = false := bne_eq_false_iff_eq.mpr c4
    clear c4
    replace H := Option.bind_eq_some_iff.mp H
    obtain ⟨⟨t356, t357, t360, t363, t364⟩, A50, H⟩ := H
    replace H : (cambiumref03_Crash.l0 k l1 t360 (t360.length : Int) 0 t356 t357 t360 t363 t364) = some (r1, r2, r3, r4, r5, r6) := H
    have A5 := Aside0.mk A50
    clear A50
    have H' := Aside0.mk H
    clear H
    go_enter Tryd.func25, Tryd.ntmps25
    go_wp2_with (first | ((with_reducible refine gate_dst (N := 2) rfl ?_); refine bx_ (N := 2) (cs := #[.int .u32 a0_0, .slice A0_1 l0_1.length c0_1, .slice A0_2 l0_2.length c0_2, .bool a0_3, .int .i64 a0_4]) (t := 25) ?_; intro gb353 hg w6 hbox hb; have BK353 := Aside0.mk (hbox); have GW353 := ge_ hg; have GE353 := ge_ hg; replace HB := hb_ hb; clear hb hbox hg) | ((with_reducible refine gate_dst (N := 4) rfl ?_); refine bx_ (N := 4) (cs := #[.int .u32 0, .slice none 0 0, .slice none 0 0, .bool false, .int .i64 0]) (t := 25) ?_; intro gb354 hg w7 hbox hb; have BK354 := Aside0.mk (hbox); have GW354 := ge_ hg; have GE354 := ge_ hg; have NB353_354 := nl_ BK353 hg; have NB354_353 := ng_ BK353 hg; replace BK353 := kb_ BK353 hb; replace HB := hb_ hb; clear hb hbox hg; have hnb8 := NB353_354.out; have hnc8 := NB354_353.out; obtain ⟨hcz9_0, hcz9_1, hcz9_2, hcz9_3, hcz9_4⟩ := cl5_ BK353; obtain ⟨hfz9_0, hfz9_1, hfz9_2, hfz9_3, hfz9_4⟩ := fz5_ BK353) | ((with_reducible refine gate_callee (f := 22) rfl ?_); refine gl_ (some 9) Tryd.func22 #[.agg #[.int .u32 a0_0, .slice A0_1 l0_1.length c0_1, .slice A0_2 l0_2.length c0_2, .bool a0_3, .int .i64 a0_4]] ?_; (with_reducible refine (cambiumref03_Check.calls k a0_0 _ _ l0_1 _ _ l0_2 a0_3 a0_4 t355 _ ?side1 ?side2 ?side3 ?side4 A3.out).mono ?_); (case side1 => exact cb_ HR0_1); (case side2 => exact HC0_1.out); (case side3 => exact cb_ HR0_2); (case side4 => exact HC0_2.out); rintro e w10 ⟨rfl, hb⟩; refine ⟨_, rfl, ?_⟩; replace BK353 := kb_ BK353 hb; replace BK354 := kb_ BK354 hb; replace HB := hb_ hb; (try clear hb); (try clear hb2); (try clear hk); (try clear hi); obtain ⟨hcz11_0, hcz11_1, hcz11_2, hcz11_3, hcz11_4⟩ := cl5_ BK353; obtain ⟨hfz11_0, hfz11_1, hfz11_2, hfz11_3, hfz11_4⟩ := fz5_ BK353) | ((with_reducible refine gate_callee (f := 12) rfl ?_); refine gl_ (some 13) Tryd.func12 #[.agg #[.int .u32 a0_0, .slice A0_1 l0_1.length c0_1, .slice A0_2 l0_2.length c0_2, .bool a0_3, .int .i64 a0_4]] ?_; (with_reducible refine (cambiumref03_Copy.calls a0_0 _ _ l0_1 _ _ l0_2 a0_3 a0_4 t356 t357 t360 t363 t364 _ ?side1 ?side2 ?side3 ?side4 A5.out).mono ?_); (case side1 => exact cb_ HR0_1); (case side2 => exact HC0_1.out); (case side3 => exact cb_ HR0_2); (case side4 => exact HC0_2.out); rintro e w12 ⟨v358, v361, rfl, ho0, ho1, hb⟩; refine ⟨_, rfl, ?_⟩; have HO359 := rl_ ho0; have HO362 := rl_ ho1; replace BK353 := kb_ BK353 hb; replace BK354 := kb_ BK354 hb; replace HB := hb_ hb; (try clear hb); (try clear hb2); (try clear hk); (try clear hi); (try clear ho0); (try clear ho1); obtain ⟨hcz13_0, hcz13_1, hcz13_2, hcz13_3, hcz13_4⟩ := cl5_ BK353; obtain ⟨hfz13_0, hfz13_1, hfz13_2, hfz13_3, hfz13_4⟩ := fz5_ BK353; obtain ⟨Ao14, co14, eo14⟩ := Kd.R_slice HO359.out; subst eo14; obtain ⟨Ao15, co15, eo15⟩ := Kd.R_slice HO362.out; subst eo15))
    go_loopg [17] k (fun kq v17 w' => ∃ (x17_1 : Int) (x354001_1 : List (S39)) (u354001 : Value), v17 = .int .i64 x17_1 ∧ Aside0 (cambiumref03_Crash.l0 kq l1 t360 (t360.length : Int) x17_1 t356 x354001_1 t360 t363 t364 = some (r1, r2, r3, r4, r5, r6)) ∧ Aside0 (kq ≤ k) ∧ Aside0 (Kd.R k39 39 w' w.heap.size (fun k_ => some k_ ≠ (u354001 : Value).ownBlock) (.slice Ao15 t360.length co15) t360) ∧ Aside0 (Kd.R k39 39 w' w.heap.size (fun k_ => some k_ ≠ ((.slice Ao15 t360.length co15) : Value).ownBlock ∧ some k_ ≠ ((.slice Ao15 t360.length co15) : Value).ownBlock) u354001 x354001_1) ∧ Aside0 (Kd.R k39 39 w' w.heap.size (fun k_ => some k_ ≠ (u354001 : Value).ownBlock) (.slice Ao15 t360.length co15) t360) ∧ Aside0 (w'.heap[gb353]? = some (.cells #[.int .u32 t356, u354001, (.slice Ao15 t360.length co15), .bool t363, .int .i64 t364] 25 (0, 0))) ∧ Aside0 (w'.heap[gb354]? = some (.cells #[.int .u32 0, (.slice none 0 0), (.slice none 0 0), .bool false, .int .i64 0] 25 (0, 0))) ∧ Aside0 (Below w.heap.size w w'))
    case atStart => exact ⟨(0), (t357), (.slice Ao14 t357.length co14), (by first | rfl | (simp; done) | (simp [*]; done)), H', ⟨Nat.le_refl _⟩, ⟨rw_ HO362⟩, ⟨by (with_reducible repeat (first | apply Kd.R_alloc | apply Kd.R_drewN | apply Kd.R_drew)); exact Kd.R_mono (Kd.R_far (p := ⟨gb353, 4, none⟩) (Kd.R_far (p := ⟨gb353, 3, none⟩) (Kd.R_far (p := ⟨gb353, 2, none⟩) (Kd.R_far (p := ⟨gb353, 1, none⟩) (Kd.R_far (p := ⟨gb353, 0, none⟩) (Kd.R_types HO359.out BK353.out (by decide)) (fun _ hk => hk.2) (.int .u32 t356)) (fun _ hk => hk.2) (.slice Ao14 t357.length co14)) (fun _ hk => hk.2) (.slice Ao15 t360.length co15)) (fun _ hk => hk.2) (.bool t363)) (fun _ hk => hk.2) (.int .i64 t364)) (fun _ hk => ⟨hk.1, hk.1⟩)⟩, ⟨rw_ HO362⟩, ⟨bs_⟩, ⟨bs_⟩, ⟨bel_⟩⟩
    case round =>
      clear H'
      try clear c1
      try clear c2
      try clear p2
      try clear c4
      try clear c4b0
      try clear c4b1
      try clear c8
      try clear c12
      try clear hcz11_0
      try clear hcz11_1
      try clear hcz11_2
      try clear hcz11_3
      try clear hcz11_4
      try clear hcz13_0
      try clear hcz13_1
      try clear hcz13_2
      try clear hcz13_3
      try clear hcz13_4
      try clear hcz9_0
      try clear hcz9_1
      try clear hcz9_2
      try clear hcz9_3
      try clear hcz9_4
      try clear hfz11_0
      try clear hfz11_1
      try clear hfz11_2
      try clear hfz11_3
      try clear hfz11_4
      try clear hfz13_0
      try clear hfz13_1
      try clear hfz13_2
      try clear hfz13_3
      try clear hfz13_4
      try clear hfz9_0
      try clear hfz9_1
      try clear hfz9_2
      try clear hfz9_3
      try clear hfz9_4
      obtain ⟨x17_1, x354001_1, u354001, rfl, HA, HK1, HO_15, HO_354001, HO_354002, BK353, BK354, HB⟩ := hrel
      cases gk with
      | zero => exact absurd HA.out (by simp [cambiumref03_Crash.l0])
      | succ k1 =>
        have H := HA.out
        clear HA
        simp only [cambiumref03_Crash.l0] at H
        by_cases c16 : x17_1 < (t360.length : Int)
        · rw [if_pos c16] at H
          have c16b0 : decide (x17_1 < (t360.length : Int)) = true := decide_eq_true c16
          clear c16
          by_cases c17 : 0 ≤ x17_1
          · rw [if_pos c17] at H
            have c17b0 : decide (0 ≤ x17_1) = true := decide_eq_true c17
            clear c17
            by_cases c18 : x17_1 < (t360.length : Int)
            · rw [if_pos c18] at H
              have c18b0 : decide (x17_1 < (t360.length : Int)) = true := decide_eq_true c18
              clear c18
              by_cases c19 : x17_1 < (l1.length : Int)
              · rw [if_pos c19] at H
                have c19b0 : decide (x17_1 < (l1.length : Int)) = true := decide_eq_true c19
                clear c19
                obtain ⟨bq20, hbq20⟩ : ∃ b_ : Bool, b_ = (rdOf false l1 x17_1) := ⟨_, rfl⟩
                replace H : (if bq20 = true then ((cambiumref03_put.f k1 x354001_1 ((rd_T39 t360 x17_1).f0) ((rd_T39 t360 x17_1).f1)).bind fun t368 => (cambiumref03_Crash.l0 k1 l1 t360 (t360.length : Int) (wrap64 (x17_1 + 1)) t356 t368 t360 t363 t364)) else (cambiumref03_Crash.l0 k1 l1 t360 (t360.length : Int) (wrap64 (x17_1 + 1)) t356 x354001_1 t360 t363 t364)) = some (r1, r2, r3, r4, r5, r6) := by rw [← hbq20] at H; exact H
                have Nbq20 := Aside0.mk hbq20
                clear hbq20
                by_cases c21 : bq20 = true
                · subst c21
                  have H1 : ((cambiumref03_put.f k1 x354001_1 ((rd_T39 t360 x17_1).f0) ((rd_T39 t360 x17_1).f1)).bind fun t368 => (cambiumref03_Crash.l0 k1 l1 t360 (t360.length : Int) (wrap64 (x17_1 + 1)) t356 t368 t360 t363 t364)) = some (r1, r2, r3, r4, r5, r6) := by rw [if_pos rfl] at H; exact H
                  clear H
                  have H := H1
                  clear H1
                  replace H := Option.bind_eq_some_iff.mp H
                  obtain ⟨t368, A220, H⟩ := H
                  replace H : (cambiumref03_Crash.l0 k1 l1 t360 (t360.length : Int) (wrap64 (x17_1 + 1)) t356 t368 t360 t363 t364) = some (r1, r2, r3, r4, r5, r6) := H
                  have A22 := Aside0.mk A220
                  clear A220
                  have H' := Aside0.mk H
                  clear H
                  have p365 : 0 ≤ (x17_1 : Int) := of_decide_eq_true (by first | (with_reducible assumption) | assumption)
                  have q365 : x17_1 < (t360.length : Int) := of_decide_eq_true (by first | (with_reducible assumption) | assumption)
                  obtain ⟨ad365, e365, hx365_0, hx365_1⟩ := at_T39 (Kd.R_reads' HO_15.out).2.2 x17_1 p365 q365
                  cases e365
                  replace p365 := eq_true p365
                  replace q365 := eq_true q365
                  go_wp2_with (first | ((with_reducible refine gate_dst (N := 7) rfl ?_); refine bx_ (N := 7) (cs := #[.int .u32 0, .string (⟨#[]⟩ : ByteArray)]) (t := 39) ?_; intro gb366 hg w23 hbox hb; have BK366 := Aside0.mk (hbox); have GW366 := ge_ hg; have GE366 := ge_ hg; have NB353_366 := nl_ BK353 hg; have NB366_353 := ng_ BK353 hg; have NB354_366 := nl_ BK354 hg; have NB366_354 := ng_ BK354 hg; replace HO_15 := Aside0.mk (Kd.R_below (Kd.R_elderB (ra_ HO_15) gb366 (Nat.le_of_eq hg.symm)) hb); replace HO_354001 := Aside0.mk (Kd.R_below (Kd.R_elderB (ra_ HO_354001) gb366 (Nat.le_of_eq hg.symm)) hb); replace HO_354002 := Aside0.mk (Kd.R_below (Kd.R_elderB (ra_ HO_354002) gb366 (Nat.le_of_eq hg.symm)) hb); replace BK353 := kb_ BK353 hb; replace BK354 := kb_ BK354 hb; replace HB := hb_ hb; clear hb hbox hg; have hnb24 := NB366_353.out; have hnc24 := NB353_366.out; have hnb25 := NB366_354.out; have hnc25 := NB354_366.out; obtain ⟨hcz26_0, hcz26_1⟩ := cl2_ BK366; obtain ⟨hfz26_0, hfz26_1⟩ := fz2_ BK366; have p367 : 0 ≤ (x17_1 : Int) := of_decide_eq_true (by first | (with_reducible assumption) | assumption); have q367 : x17_1 < (l1.length : Int) := of_decide_eq_true (by first | (with_reducible assumption) | assumption); obtain ⟨ad367, e367, hx367_0⟩ := Kd.at_bool HR1.out x17_1 p367 q367; (try rw [← Nbq20.out] at hx367_0); cases e367; have hn367_0 : ad367.block ≠ gb366 := Nat.ne_of_lt (Nat.lt_of_lt_of_le (by have := World.block_lt_of_cell? _ _ hx367_0; first | rwa [add_block] at this | exact this) GW366.out); have hn367_1 : ad367.block ≠ gb366 := Nat.ne_of_lt (Nat.lt_of_lt_of_le (by have := World.block_lt_of_cell? _ _ hx367_0; first | rwa [add_block] at this | exact this) GW366.out); replace hx367_0 := (HB.out.cell (World.block_lt_of_cell? w _ hx367_0)).trans hx367_0; replace hx367_0 := (cell_far (p := ⟨gb366, 0, none⟩) (by first | (rw [add_block]; exact hn367_0) | (show (Addr.add _ _).block ≠ _; rw [add_block]; exact hn367_0) | exact hn367_0) (.int .u32 ((rd_T39 t360 x17_1).f0))).trans hx367_0; replace hx367_0 := (cell_far (p := ⟨gb366, 1, none⟩) (by first | (rw [add_block]; exact hn367_1) | (show (Addr.add _ _).block ≠ _; rw [add_block]; exact hn367_1) | exact hn367_1) (.string ((rd_T39 t360 x17_1).f1))).trans hx367_0; clear hn367_0; clear hn367_1; replace p367 := eq_true p367; replace q367 := eq_true q367; have hnb27 := NB353_354.out; have hnc27 := NB354_353.out; obtain ⟨hcz28_0, hcz28_1, hcz28_2, hcz28_3, hcz28_4⟩ := cl5_ BK353; obtain ⟨hfz28_0, hfz28_1, hfz28_2, hfz28_3, hfz28_4⟩ := fz5_ BK353; obtain ⟨Ao29, co29, eo29⟩ := Kd.R_slice HO_354001.out; subst eo29) | ((with_reducible refine gate_callee (f := 32) rfl ?_); refine gl_ (some 35) Tryd.func32 #[.slice Ao29 x354001_1.length co29, .agg #[.int .u32 ((rd_T39 t360 x17_1).f0), .string ((rd_T39 t360 x17_1).f1)]] ?_; (with_reducible refine (cambiumref03_put.calls k1 _ _ x354001_1 ((rd_T39 t360 x17_1).f0) ((rd_T39 t360 x17_1).f1) t368 _ ?side1 ?side2 A22.out).mono ?_); (case side1 => refine (Kd.R_reads' (e := 39) (base := w.heap.size) (ok := fun k_ => ((some k_ ≠ (.slice (some ad365) t360.length co15 : Value).ownBlock ∧ some k_ ≠ (.slice (some ad365) t360.length co15 : Value).ownBlock) ∧ k_ ≠ gb366)) (n := x354001_1.length) (c := co29) ?_).2.2; exact (by (with_reducible repeat (first | apply Kd.R_alloc | apply Kd.R_drewN | apply Kd.R_drew)); exact (Kd.R_mono (Kd.R_far (p := ⟨gb366, 1, none⟩) (Kd.R_far (p := ⟨gb366, 0, none⟩) (Kd.R_mono HO_354001.out (fun k_ hk => (⟨hk, hk.2⟩ : _ ∧ k_ ≠ gb366))) (fun _ hk => hk.2) (.int .u32 ((rd_T39 t360 x17_1).f0))) (fun _ hk => hk.2) (.string ((rd_T39 t360 x17_1).f1))) (fun _ h_ => h_.1)))); (case side2 => exact (Kd.R_reads' HO_354001.out).2.1); rintro e w30 ⟨v369, rfl, ho0, hb⟩; refine ⟨_, rfl, ?_⟩; have HO370 := Aside0.mk (Kd.R_lower (Kd.R_newB (Kd.R_new' (Kd.R_new' (Kd.R_new' ho0 (Kd.R_lt (by (with_reducible repeat (first | apply Kd.R_alloc | apply Kd.R_drewN | apply Kd.R_drew)); exact (Kd.R_mono (Kd.R_far (p := ⟨gb366, 1, none⟩) (Kd.R_far (p := ⟨gb366, 0, none⟩) (Kd.R_mono HO_15.out (fun k_ hk => (⟨hk, hk.2⟩ : _ ∧ k_ ≠ gb366))) (fun _ hk => hk.2) (.int .u32 ((rd_T39 t360 x17_1).f0))) (fun _ hk => hk.2) (.string ((rd_T39 t360 x17_1).f1))) (fun _ h_ => h_.1))))) (Kd.R_lt (by (with_reducible repeat (first | apply Kd.R_alloc | apply Kd.R_drewN | apply Kd.R_drew)); exact (Kd.R_mono (Kd.R_far (p := ⟨gb366, 1, none⟩) (Kd.R_far (p := ⟨gb366, 0, none⟩) (Kd.R_mono HO_354001.out (fun k_ hk => (⟨hk, hk.2⟩ : _ ∧ k_ ≠ gb366))) (fun _ hk => hk.2) (.int .u32 ((rd_T39 t360 x17_1).f0))) (fun _ hk => hk.2) (.string ((rd_T39 t360 x17_1).f1))) (fun _ h_ => h_.1))))) (Kd.R_lt (by (with_reducible repeat (first | apply Kd.R_alloc | apply Kd.R_drewN | apply Kd.R_drew)); exact (Kd.R_mono (Kd.R_far (p := ⟨gb366, 1, none⟩) (Kd.R_far (p := ⟨gb366, 0, none⟩) (Kd.R_mono HO_354002.out (fun k_ hk => (⟨hk, hk.2⟩ : _ ∧ k_ ≠ gb366))) (fun _ hk => hk.2) (.int .u32 ((rd_T39 t360 x17_1).f0))) (fun _ hk => hk.2) (.string ((rd_T39 t360 x17_1).f1))) (fun _ h_ => h_.1))))) (g := gb366) (o := .cells #[.int .u32 ((rd_T39 t360 x17_1).f0), .string ((rd_T39 t360 x17_1).f1)] 39 (0, 0)) (bs_)) (below_size bel_)); replace HO_15 := Aside0.mk (Kd.R_elder' (by (with_reducible repeat (first | apply Kd.R_alloc | apply Kd.R_drewN | apply Kd.R_drew)); exact (Kd.R_mono (Kd.R_far (p := ⟨gb366, 1, none⟩) (Kd.R_far (p := ⟨gb366, 0, none⟩) (Kd.R_mono HO_15.out (fun k_ hk => (⟨hk, hk.2⟩ : _ ∧ k_ ≠ gb366))) (fun _ hk => hk.2) (.int .u32 ((rd_T39 t360 x17_1).f0))) (fun _ hk => hk.2) (.string ((rd_T39 t360 x17_1).f1))) (fun _ h_ => h_.1))) (Kd.R_base ho0) hb); replace HO_354001 := Aside0.mk (Kd.R_elder' (by (with_reducible repeat (first | apply Kd.R_alloc | apply Kd.R_drewN | apply Kd.R_drew)); exact (Kd.R_mono (Kd.R_far (p := ⟨gb366, 1, none⟩) (Kd.R_far (p := ⟨gb366, 0, none⟩) (Kd.R_mono HO_354001.out (fun k_ hk => (⟨hk, hk.2⟩ : _ ∧ k_ ≠ gb366))) (fun _ hk => hk.2) (.int .u32 ((rd_T39 t360 x17_1).f0))) (fun _ hk => hk.2) (.string ((rd_T39 t360 x17_1).f1))) (fun _ h_ => h_.1))) (Kd.R_base ho0) hb); replace HO_354002 := Aside0.mk (Kd.R_elder' (by (with_reducible repeat (first | apply Kd.R_alloc | apply Kd.R_drewN | apply Kd.R_drew)); exact (Kd.R_mono (Kd.R_far (p := ⟨gb366, 1, none⟩) (Kd.R_far (p := ⟨gb366, 0, none⟩) (Kd.R_mono HO_354002.out (fun k_ hk => (⟨hk, hk.2⟩ : _ ∧ k_ ≠ gb366))) (fun _ hk => hk.2) (.int .u32 ((rd_T39 t360 x17_1).f0))) (fun _ hk => hk.2) (.string ((rd_T39 t360 x17_1).f1))) (fun _ h_ => h_.1))) (Kd.R_base ho0) hb); replace BK353 := Aside0.mk (blk_below (g := gb353) (o := .cells #[.int .u32 t356, .slice Ao29 x354001_1.length co29, .slice (some ad365) t360.length co15, .bool t363, .int .i64 t364] 25 (0, 0)) (bs_) hb); replace BK354 := Aside0.mk (blk_below (g := gb354) (o := .cells #[.int .u32 0, .slice none 0 0, .slice none 0 0, .bool false, .int .i64 0] 25 (0, 0)) (bs_) hb); replace BK366 := Aside0.mk (blk_below (g := gb366) (o := .cells #[.int .u32 ((rd_T39 t360 x17_1).f0), .string ((rd_T39 t360 x17_1).f1)] 39 (0, 0)) (bs_) hb); replace HB := hb_ hb; (try clear hb); (try clear hb2); (try clear hk); (try clear hi); (try clear ho0); obtain ⟨Ao31, co31, eo31⟩ := Kd.R_slice HO370.out; subst eo31; obtain ⟨hcz32_0, hcz32_1, hcz32_2, hcz32_3, hcz32_4⟩ := cl5_ BK353; obtain ⟨hfz32_0, hfz32_1, hfz32_2, hfz32_3, hfz32_4⟩ := fz5_ BK353))
                  go_roundg k1
                  case measure => have := HK1.out; omega
                  case rel => exact ⟨(wrap64 (x17_1 + 1)), (t368), (.slice Ao31 t368.length co31), (by first | rfl | (simp; done) | (simp [*]; done)), H', ⟨by have := HK1.out; omega⟩, ⟨by (with_reducible repeat (first | apply Kd.R_alloc | apply Kd.R_drewN | apply Kd.R_drew)); exact Kd.R_mono (Kd.R_far (p := ⟨gb353, 1, none⟩) (Kd.R_types HO_15.out BK353.out (by decide)) (fun _ hk => hk.2) (.slice Ao31 t368.length co31)) (fun _ hk => hk.1.2)⟩, ⟨by (with_reducible repeat (first | apply Kd.R_alloc | apply Kd.R_drewN | apply Kd.R_drew)); exact Kd.R_mono (Kd.R_far (p := ⟨gb353, 1, none⟩) (Kd.R_types HO370.out BK353.out (by decide)) (fun _ hk => hk.2) (.slice Ao31 t368.length co31)) (fun _ hk => ⟨hk.1.1.1.1.2, hk.1.1.2⟩)⟩, ⟨by (with_reducible repeat (first | apply Kd.R_alloc | apply Kd.R_drewN | apply Kd.R_drew)); exact Kd.R_mono (Kd.R_far (p := ⟨gb353, 1, none⟩) (Kd.R_types HO_354002.out BK353.out (by decide)) (fun _ hk => hk.2) (.slice Ao31 t368.length co31)) (fun _ hk => hk.1.2)⟩, ⟨bs_⟩, ⟨bs_⟩, ⟨bel_⟩⟩
                replace c21 := Bool.eq_false_iff.mpr c21
                subst c21
                have H1 : (cambiumref03_Crash.l0 k1 l1 t360 (t360.length : Int) (wrap64 (x17_1 + 1)) t356 x354001_1 t360 t363 t364) = some (r1, r2, r3, r4, r5, r6) := by rw [if_neg (show ¬ (false = true) by decide)] at H; exact H
                clear H
                have H := H1
                clear H1
                have H' := Aside0.mk H
                clear H
                have p365 : 0 ≤ (x17_1 : Int) := of_decide_eq_true (by first | (with_reducible assumption) | assumption)
                have q365 : x17_1 < (t360.length : Int) := of_decide_eq_true (by first | (with_reducible assumption) | assumption)
                obtain ⟨ad365, e365, hx365_0, hx365_1⟩ := at_T39 (Kd.R_reads' HO_15.out).2.2 x17_1 p365 q365
                cases e365
                replace p365 := eq_true p365
                replace q365 := eq_true q365
                go_wp2_with (first | ((with_reducible refine gate_dst (N := 7) rfl ?_); refine bx_ (N := 7) (cs := #[.int .u32 0, .string (⟨#[]⟩ : ByteArray)]) (t := 39) ?_; intro gb366 hg w33 hbox hb; have BK366 := Aside0.mk (hbox); have GW366 := ge_ hg; have GE366 := ge_ hg; have NB353_366 := nl_ BK353 hg; have NB366_353 := ng_ BK353 hg; have NB354_366 := nl_ BK354 hg; have NB366_354 := ng_ BK354 hg; replace HO_15 := Aside0.mk (Kd.R_below (Kd.R_elderB (ra_ HO_15) gb366 (Nat.le_of_eq hg.symm)) hb); replace HO_354001 := Aside0.mk (Kd.R_below (Kd.R_elderB (ra_ HO_354001) gb366 (Nat.le_of_eq hg.symm)) hb); replace HO_354002 := Aside0.mk (Kd.R_below (Kd.R_elderB (ra_ HO_354002) gb366 (Nat.le_of_eq hg.symm)) hb); replace BK353 := kb_ BK353 hb; replace BK354 := kb_ BK354 hb; replace HB := hb_ hb; clear hb hbox hg; have hnb34 := NB366_353.out; have hnc34 := NB353_366.out; have hnb35 := NB366_354.out; have hnc35 := NB354_366.out; obtain ⟨hcz36_0, hcz36_1⟩ := cl2_ BK366; obtain ⟨hfz36_0, hfz36_1⟩ := fz2_ BK366; have p367 : 0 ≤ (x17_1 : Int) := of_decide_eq_true (by first | (with_reducible assumption) | assumption); have q367 : x17_1 < (l1.length : Int) := of_decide_eq_true (by first | (with_reducible assumption) | assumption); obtain ⟨ad367, e367, hx367_0⟩ := Kd.at_bool HR1.out x17_1 p367 q367; (try rw [← Nbq20.out] at hx367_0); cases e367; have hn367_0 : ad367.block ≠ gb366 := Nat.ne_of_lt (Nat.lt_of_lt_of_le (by have := World.block_lt_of_cell? _ _ hx367_0; first | rwa [add_block] at this | exact this) GW366.out); have hn367_1 : ad367.block ≠ gb366 := Nat.ne_of_lt (Nat.lt_of_lt_of_le (by have := World.block_lt_of_cell? _ _ hx367_0; first | rwa [add_block] at this | exact this) GW366.out); replace hx367_0 := (HB.out.cell (World.block_lt_of_cell? w _ hx367_0)).trans hx367_0; replace hx367_0 := (cell_far (p := ⟨gb366, 0, none⟩) (by first | (rw [add_block]; exact hn367_0) | (show (Addr.add _ _).block ≠ _; rw [add_block]; exact hn367_0) | exact hn367_0) (.int .u32 ((rd_T39 t360 x17_1).f0))).trans hx367_0; replace hx367_0 := (cell_far (p := ⟨gb366, 1, none⟩) (by first | (rw [add_block]; exact hn367_1) | (show (Addr.add _ _).block ≠ _; rw [add_block]; exact hn367_1) | exact hn367_1) (.string ((rd_T39 t360 x17_1).f1))).trans hx367_0; clear hn367_0; clear hn367_1; replace p367 := eq_true p367; replace q367 := eq_true q367))
                go_roundg k1
                case measure => have := HK1.out; omega
                case rel => exact ⟨(wrap64 (x17_1 + 1)), (x354001_1), (u354001), (by first | rfl | (simp; done) | (simp [*]; done)), H', ⟨by have := HK1.out; omega⟩, ⟨by (with_reducible repeat (first | apply Kd.R_alloc | apply Kd.R_drewN | apply Kd.R_drew)); exact Kd.R_mono (Kd.R_far (p := ⟨gb366, 1, none⟩) (Kd.R_far (p := ⟨gb366, 0, none⟩) (Kd.R_mono HO_15.out (fun k_ hk => (⟨hk, hk.2⟩ : _ ∧ k_ ≠ gb366))) (fun _ hk => hk.2) (.int .u32 ((rd_T39 t360 x17_1).f0))) (fun _ hk => hk.2) (.string ((rd_T39 t360 x17_1).f1))) (fun _ hk => hk.1.1)⟩, ⟨by (with_reducible repeat (first | apply Kd.R_alloc | apply Kd.R_drewN | apply Kd.R_drew)); exact Kd.R_mono (Kd.R_far (p := ⟨gb366, 1, none⟩) (Kd.R_far (p := ⟨gb366, 0, none⟩) (Kd.R_mono HO_354001.out (fun k_ hk => (⟨hk, hk.2⟩ : _ ∧ k_ ≠ gb366))) (fun _ hk => hk.2) (.int .u32 ((rd_T39 t360 x17_1).f0))) (fun _ hk => hk.2) (.string ((rd_T39 t360 x17_1).f1))) (fun _ hk => ⟨hk.1.1.1, hk.1.1.2⟩)⟩, ⟨by (with_reducible repeat (first | apply Kd.R_alloc | apply Kd.R_drewN | apply Kd.R_drew)); exact Kd.R_mono (Kd.R_far (p := ⟨gb366, 1, none⟩) (Kd.R_far (p := ⟨gb366, 0, none⟩) (Kd.R_mono HO_354002.out (fun k_ hk => (⟨hk, hk.2⟩ : _ ∧ k_ ≠ gb366))) (fun _ hk => hk.2) (.int .u32 ((rd_T39 t360 x17_1).f0))) (fun _ hk => hk.2) (.string ((rd_T39 t360 x17_1).f1))) (fun _ hk => hk.1.1)⟩, ⟨bs_⟩, ⟨bs_⟩, ⟨bel_⟩⟩
              rw [if_neg c19] at H
              have c19b0 : decide (x17_1 < (l1.length : Int)) = false := decide_eq_false c19
              clear c19
              have H' := Aside0.mk H
              clear H
              have p365 : 0 ≤ (x17_1 : Int) := of_decide_eq_true (by first | (with_reducible assumption) | assumption)
              have q365 : x17_1 < (t360.length : Int) := of_decide_eq_true (by first | (with_reducible assumption) | assumption)
              obtain ⟨ad365, e365, hx365_0, hx365_1⟩ := at_T39 (Kd.R_reads' HO_15.out).2.2 x17_1 p365 q365
              cases e365
              replace p365 := eq_true p365
              replace q365 := eq_true q365
              go_wp2_with (first | ((with_reducible refine gate_dst (N := 7) rfl ?_); refine bx_ (N := 7) (cs := #[.int .u32 0, .string (⟨#[]⟩ : ByteArray)]) (t := 39) ?_; intro gb366 hg w37 hbox hb; have BK366 := Aside0.mk (hbox); have GW366 := ge_ hg; have GE366 := ge_ hg; have NB353_366 := nl_ BK353 hg; have NB366_353 := ng_ BK353 hg; have NB354_366 := nl_ BK354 hg; have NB366_354 := ng_ BK354 hg; replace HO_15 := Aside0.mk (Kd.R_below (Kd.R_elderB (ra_ HO_15) gb366 (Nat.le_of_eq hg.symm)) hb); replace HO_354001 := Aside0.mk (Kd.R_below (Kd.R_elderB (ra_ HO_354001) gb366 (Nat.le_of_eq hg.symm)) hb); replace HO_354002 := Aside0.mk (Kd.R_below (Kd.R_elderB (ra_ HO_354002) gb366 (Nat.le_of_eq hg.symm)) hb); replace BK353 := kb_ BK353 hb; replace BK354 := kb_ BK354 hb; replace HB := hb_ hb; clear hb hbox hg; have hnb38 := NB366_353.out; have hnc38 := NB353_366.out; have hnb39 := NB366_354.out; have hnc39 := NB354_366.out; obtain ⟨hcz40_0, hcz40_1⟩ := cl2_ BK366; obtain ⟨hfz40_0, hfz40_1⟩ := fz2_ BK366))
              go_roundg k1
              case measure => have := HK1.out; omega
              case rel => exact ⟨(wrap64 (x17_1 + 1)), (x354001_1), (u354001), (by first | rfl | (simp; done) | (simp [*]; done)), H', ⟨by have := HK1.out; omega⟩, ⟨by (with_reducible repeat (first | apply Kd.R_alloc | apply Kd.R_drewN | apply Kd.R_drew)); exact Kd.R_mono (Kd.R_far (p := ⟨gb366, 1, none⟩) (Kd.R_far (p := ⟨gb366, 0, none⟩) (Kd.R_mono HO_15.out (fun k_ hk => (⟨hk, hk.2⟩ : _ ∧ k_ ≠ gb366))) (fun _ hk => hk.2) (.int .u32 ((rd_T39 t360 x17_1).f0))) (fun _ hk => hk.2) (.string ((rd_T39 t360 x17_1).f1))) (fun _ hk => hk.1.1)⟩, ⟨by (with_reducible repeat (first | apply Kd.R_alloc | apply Kd.R_drewN | apply Kd.R_drew)); exact Kd.R_mono (Kd.R_far (p := ⟨gb366, 1, none⟩) (Kd.R_far (p := ⟨gb366, 0, none⟩) (Kd.R_mono HO_354001.out (fun k_ hk => (⟨hk, hk.2⟩ : _ ∧ k_ ≠ gb366))) (fun _ hk => hk.2) (.int .u32 ((rd_T39 t360 x17_1).f0))) (fun _ hk => hk.2) (.string ((rd_T39 t360 x17_1).f1))) (fun _ hk => ⟨hk.1.1.1, hk.1.1.2⟩)⟩, ⟨by (with_reducible repeat (first | apply Kd.R_alloc | apply Kd.R_drewN | apply Kd.R_drew)); exact Kd.R_mono (Kd.R_far (p := ⟨gb366, 1, none⟩) (Kd.R_far (p := ⟨gb366, 0, none⟩) (Kd.R_mono HO_354002.out (fun k_ hk => (⟨hk, hk.2⟩ : _ ∧ k_ ≠ gb366))) (fun _ hk => hk.2) (.int .u32 ((rd_T39 t360 x17_1).f0))) (fun _ hk => hk.2) (.string ((rd_T39 t360 x17_1).f1))) (fun _ hk => hk.1.1)⟩, ⟨bs_⟩, ⟨bs_⟩, ⟨bel_⟩⟩
            rw [if_neg c18] at H
            exact absurd H (by simp)
          rw [if_neg c17] at H
          exact absurd H (by simp)
        rw [if_neg c16] at H
        have c16b0 : decide (x17_1 < (t360.length : Int)) = false := decide_eq_false c16
        clear c16
        simp only [Option.some.injEq, Prod.mk.injEq] at H
        obtain ⟨rfl, rfl, rfl, rfl, rfl, rfl⟩ := H
        have hnb41 := NB353_354.out
        have hnc41 := NB354_353.out
        obtain ⟨hcz42_0, hcz42_1, hcz42_2, hcz42_3, hcz42_4⟩ := cl5_ BK353
        obtain ⟨hfz42_0, hfz42_1, hfz42_2, hfz42_3, hfz42_4⟩ := fz5_ BK353
        obtain ⟨Ao43, co43, eo43⟩ := Kd.R_slice HO_354001.out
        subst eo43
        obtain ⟨hcz44_0, hcz44_1, hcz44_2, hcz44_3, hcz44_4⟩ := cl5_ BK354
        obtain ⟨hfz44_0, hfz44_1, hfz44_2, hfz44_3, hfz44_4⟩ := fz5_ BK354
        go_wp2
        refine bodyPost_ret (results_ct rfl _ _ gb354 25 #[.int .u32 t356, .slice Ao43 x354001_1.length co43, .slice none 0 0, .bool false, .int .i64 (-1)] (0, 0) _ rfl (bs_) Tryd.underlying25 rfl (by kernel_rfl)) rfl ?_
        exact ⟨_, _, by first | rfl | (simp [errW_none, errW_some] <;> rfl) | (simp [*, errW_none, errW_some] <;> rfl), by (with_reducible repeat (first | apply Kd.R_alloc | apply Kd.R_drewN | apply Kd.R_drew)); exact Kd.R_mono (Kd.R_far (p := ⟨gb354, 4, none⟩) (Kd.R_far (p := ⟨gb354, 3, none⟩) (Kd.R_far (p := ⟨gb354, 2, none⟩) (Kd.R_far (p := ⟨gb354, 1, none⟩) (Kd.R_far (p := ⟨gb354, 0, none⟩) (Kd.R_types HO_354001.out BK354.out (by decide)) (fun _ hk => hk.2) (.int .u32 t356)) (fun _ hk => hk.2) (.slice Ao43 x354001_1.length co43)) (fun _ hk => hk.2) (.slice none 0 0)) (fun _ hk => hk.2) (.bool false)) (fun _ hk => hk.2) (.int .i64 (-1))) (fun _ hk => (by simp [Value.ownBlock])), by first | exact Kd.R_nil _ _ _ _ _ | exact Kd.N_nil _ _ _ _ _ | exact Kd.V_nil _ _ _ _ _ | exact Kd.Q_nil _ _ _ _ _ | exact Kd.S_nil _ _ _ _ _, bel_⟩
  rw [if_neg c4] at H
  have c4b0 : (t355 == 0) = false := beq_eq_false_iff_ne.mpr c4
  have c4b1 : (t355 != 0) = true := bne_iff_ne.mpr c4
  simp only [Option.some.injEq, Prod.mk.injEq] at H
  obtain ⟨rfl, rfl, rfl, rfl, rfl, rfl⟩ := H
  go_enter Tryd.func25, Tryd.ntmps25
  go_wp2_with (first | ((with_reducible refine gate_dst (N := 2) rfl ?_); refine bx_ (N := 2) (cs := #[.int .u32 a0_0, .slice A0_1 l0_1.length c0_1, .slice A0_2 l0_2.length c0_2, .bool a0_3, .int .i64 a0_4]) (t := 25) ?_; intro gb353 hg w45 hbox hb; have BK353 := Aside0.mk (hbox); have GW353 := ge_ hg; have GE353 := ge_ hg; replace HB := hb_ hb; clear hb hbox hg) | ((with_reducible refine gate_dst (N := 4) rfl ?_); refine bx_ (N := 4) (cs := #[.int .u32 0, .slice none 0 0, .slice none 0 0, .bool false, .int .i64 0]) (t := 25) ?_; intro gb354 hg w46 hbox hb; have BK354 := Aside0.mk (hbox); have GW354 := ge_ hg; have GE354 := ge_ hg; have NB353_354 := nl_ BK353 hg; have NB354_353 := ng_ BK353 hg; replace BK353 := kb_ BK353 hb; replace HB := hb_ hb; clear hb hbox hg; have hnb47 := NB353_354.out; have hnc47 := NB354_353.out; obtain ⟨hcz48_0, hcz48_1, hcz48_2, hcz48_3, hcz48_4⟩ := cl5_ BK353; obtain ⟨hfz48_0, hfz48_1, hfz48_2, hfz48_3, hfz48_4⟩ := fz5_ BK353) | ((with_reducible refine gate_callee (f := 22) rfl ?_); refine gl_ (some 9) Tryd.func22 #[.agg #[.int .u32 a0_0, .slice A0_1 l0_1.length c0_1, .slice A0_2 l0_2.length c0_2, .bool a0_3, .int .i64 a0_4]] ?_; (with_reducible refine (cambiumref03_Check.calls k a0_0 _ _ l0_1 _ _ l0_2 a0_3 a0_4 t355 _ ?side1 ?side2 ?side3 ?side4 A3.out).mono ?_); (case side1 => exact cb_ HR0_1); (case side2 => exact HC0_1.out); (case side3 => exact cb_ HR0_2); (case side4 => exact HC0_2.out); rintro e w49 ⟨rfl, hb⟩; refine ⟨_, rfl, ?_⟩; replace BK353 := kb_ BK353 hb; replace BK354 := kb_ BK354 hb; replace HB := hb_ hb; (try clear hb); (try clear hb2); (try clear hk); (try clear hi); obtain ⟨hcz50_0, hcz50_1, hcz50_2, hcz50_3, hcz50_4⟩ := cl5_ BK354; obtain ⟨hfz50_0, hfz50_1, hfz50_2, hfz50_3, hfz50_4⟩ := fz5_ BK354))
  refine bodyPost_ret (results_ct rfl _ _ gb354 25 #[.int .u32 0, .slice none 0 0, .slice none 0 0, .bool false, .int .i64 0] (0, 0) _ rfl (bs_) Tryd.underlying25 rfl (by kernel_rfl)) rfl ?_
  exact ⟨_, _, by first | rfl | (simp [errW_none, errW_some] <;> rfl) | (simp [*, errW_none, errW_some] <;> rfl), by first | exact Kd.R_nil _ _ _ _ _ | exact Kd.N_nil _ _ _ _ _ | exact Kd.V_nil _ _ _ _ _ | exact Kd.Q_nil _ _ _ _ _ | exact Kd.S_nil _ _ _ _ _, by first | exact Kd.R_nil _ _ _ _ _ | exact Kd.N_nil _ _ _ _ _ | exact Kd.V_nil _ _ _ _ _ | exact Kd.Q_nil _ _ _ _ _ | exact Kd.S_nil _ _ _ _ _, bel_⟩

end Go.Proofs.YtcphflfjhkeooaaDoor.Z
end

section
-- Printed by a program of this session (mp.py) out of the translation.
namespace Go.Proofs.YtcphflfjhkeooaaDoor.Z
open Go.RowKit Go.Proofs.YtcphflfjhkeooaaDoorW.PrintWords Go.Proofs.YtcphflfjhkeooaaDoorW.PrintLast Go.Proofs.YtcphflfjhkeooaaDoorW.PrintMore
attribute [local go_sem] max2_int min2_int max_two min_two max_three min_three max_four min_four   -- for this text's walks alone
set_option linter.unusedVariables false
set_option linter.unusedSimpArgs false

/-! ### cambiumref03_Spoil: function 27 -/
def cambiumref03_Spoil.f (k : Nat) (a0_0 : Int) (l0_1 : List (S39)) (l0_2 : List (S39)) (a0_3 : Bool) (a0_4 : Int) (a1 : Int) (a2 : ByteArray) : Option (Int × (List (S39)) × (List (S39)) × Bool × Int × Int) := (cambiumref03_Check.f k a0_0 l0_1 l0_2 a0_3 a0_4).bind fun t373 => (if t373 = 0 then ((cambiumref03_Copy.f a0_0 l0_1 l0_2 a0_3 a0_4).bind fun bt374 => (if a1 ≥ bt374.1 then (some (bt374.1, bt374.2.1, bt374.2.2.1, bt374.2.2.2.1, bt374.2.2.2.2, 1)) else (if (a2.size : Int) > 512 then (some (bt374.1, bt374.2.1, bt374.2.2.1, bt374.2.2.2.1, bt374.2.2.2.2, 2)) else ((cambiumref03_Cut.f k a2).bind fun t383 => ((cambiumref03_put.f k bt374.2.1 a1 t383).bind fun t384 => (some (bt374.1, t384, bt374.2.2.1, bt374.2.2.2.1, bt374.2.2.2.2, 0))))))) else (some (0, ([] : List (S39)), ([] : List (S39)), false, 0, 7)))
theorem cambiumref03_Spoil.mono : ∀ a0 a1 a2 a3 a4 a5 a6 k, LeO (cambiumref03_Spoil.f k a0 a1 a2 a3 a4 a5 a6) (cambiumref03_Spoil.f (k + 1) a0 a1 a2 a3 a4 a5 a6) := by
  intro a0 a1 a2 a3 a4 a5 a6 k
  unfold cambiumref03_Spoil.f
  repeat' first
      | (with_reducible exact cambiumref03_Check.mono _ _ _ _ _ _)
      | (with_reducible exact cambiumref03_Cut.mono _ _)
      | (with_reducible exact cambiumref03_put.mono _ _ _ _)
      | (with_reducible exact LeO.refl _)
      | (with_reducible exact LeO.none _)
      | (with_reducible refine LeO.ite ?_ ?_)
      | (with_reducible refine LeO.bind ?_ (fun _ => ?_))
      | exact cambiumref03_Check.mono _ _ _ _ _ _
      | exact cambiumref03_Cut.mono _ _
      | exact cambiumref03_put.mono _ _ _ _
      | exact LeO.none _
      | refine LeO.ite ?_ ?_
      | refine LeO.bind ?_ (fun _ => ?_)
def cambiumref03_Spoil.T8 : Bool × List (List Nat × List Nat) := (true, [([], []), ([0], [0]), ([], []), ([], []), ([3], [3]), ([2, 4], [2, 4]), ([1, 5, 4], [1, 5]), ([0, 1, 2, 3, 4, 5, 6], []), ([7, 6, 6, 0, 1, 2, 3, 4, 5, 6], [6, 7])])
def cambiumref03_Spoil.B8 : List Nat := [0, 1, 0, 0, 8, 28, 63, 127, 255]
theorem cambiumref03_Spoil.tab8 : rtab .any (opsOf Tryd.f27 8) = cambiumref03_Spoil.T8 := by kernel_rfl
theorem cambiumref03_Spoil.bits8 : waitsOk cambiumref03_Spoil.T8.2 cambiumref03_Spoil.B8 = true := by kernel_rfl
set_option maxHeartbeats 8000000 in
set_option maxRecDepth 100000 in
theorem cambiumref03_Spoil.calls (k : Nat) (a0_0 : Int) (A0_1 : Option Addr) (c0_1 : Nat) (l0_1 : List (S39)) (A0_2 : Option Addr) (c0_2 : Nat) (l0_2 : List (S39)) (a0_3 : Bool) (a0_4 : Int) (a1 : Int) (a2 : ByteArray) (r1 : Int) (r2 : List (S39)) (r3 : List (S39)) (r4 : Bool) (r5 : Int) (r6 : Int) (w : World) (hr0_1 : Kd.C k39 w A0_1 l0_1.length l0_1) (hc0_1 : l0_1.length ≤ c0_1) (hr0_2 : Kd.C k39 w A0_2 l0_2.length l0_2) (hc0_2 : l0_2.length ≤ c0_2) (h : cambiumref03_Spoil.f k a0_0 l0_1 l0_2 a0_3 a0_4 a1 a2 = some (r1, r2, r3, r4, r5, r6)) :
    Calls Tryd.prog 27 #[.agg #[.int .u32 a0_0, .slice A0_1 l0_1.length c0_1, .slice A0_2 l0_2.length c0_2, .bool a0_3, .int .i64 a0_4], .int .u32 a1, .string a2] w fun e w' => ∃ v1_ v2_ : Value, e = .returned (.tuple #[.agg #[.int .u32 r1, v1_, v2_, .bool r4, .int .i64 r5], .int .i64 r6]) ∧ Kd.R k39 39 w' w.heap.size (fun k_ => some k_ ≠ (v2_ : Value).ownBlock) v1_ r2 ∧ Kd.R k39 39 w' w.heap.size (fun k_ => some k_ ≠ (v1_ : Value).ownBlock) v2_ r3 ∧ Below w.heap.size w w' := by
  have hu25 := Tryd.underlying25
  have hu39 := Tryd.underlying39
  have HR0_1 := Aside0.mk hr0_1
  have HC0_1 := Aside0.mk hc0_1
  clear hr0_1 hc0_1
  have HR0_2 := Aside0.mk hr0_2
  have HC0_2 := Aside0.mk hc0_2
  clear hr0_2 hc0_2
  have HB := Aside0.mk (Below.refl w.heap.size w)
  have H : ((cambiumref03_Check.f k a0_0 l0_1 l0_2 a0_3 a0_4).bind fun t373 => (if t373 = 0 then ((cambiumref03_Copy.f a0_0 l0_1 l0_2 a0_3 a0_4).bind fun bt374 => (if a1 ≥ bt374.1 then (some (bt374.1, bt374.2.1, bt374.2.2.1, bt374.2.2.2.1, bt374.2.2.2.2, 1)) else (if (a2.size : Int) > 512 then (some (bt374.1, bt374.2.1, bt374.2.2.1, bt374.2.2.2.1, bt374.2.2.2.2, 2)) else ((cambiumref03_Cut.f k a2).bind fun t383 => ((cambiumref03_put.f k bt374.2.1 a1 t383).bind fun t384 => (some (bt374.1, t384, bt374.2.2.1, bt374.2.2.2.1, bt374.2.2.2.2, 0))))))) else (some (0, ([] : List (S39)), ([] : List (S39)), false, 0, 7)))) = some (r1, r2, r3, r4, r5, r6) := h
  clear h
  replace H := Option.bind_eq_some_iff.mp H
  obtain ⟨t373, A40, H⟩ := H
  replace H : (if t373 = 0 then ((cambiumref03_Copy.f a0_0 l0_1 l0_2 a0_3 a0_4).bind fun bt374 => (if a1 ≥ bt374.1 then (some (bt374.1, bt374.2.1, bt374.2.2.1, bt374.2.2.2.1, bt374.2.2.2.2, 1)) else (if (a2.size : Int) > 512 then (some (bt374.1, bt374.2.1, bt374.2.2.1, bt374.2.2.2.1, bt374.2.2.2.2, 2)) else ((cambiumref03_Cut.f k a2).bind fun t383 => ((cambiumref03_put.f k bt374.2.1 a1 t383).bind fun t384 => (some (bt374.1, t384, bt374.2.2.1, bt374.2.2.2.1, bt374.2.2.2.2, 0))))))) else (some (0, ([] : List (S39)), ([] : List (S39)), false, 0, 7))) = some (r1, r2, r3, r4, r5, r6) := H
  have A4 := Aside0.mk A40
  clear A40
  by_cases c5 : t373 = 0
  · rw [if_pos c5] at H
    have c5b0 : (t373 == 0) = true := beq_iff_eq.mpr c5
    have c5b1 : (t373 != 0) = false := bne_eq_false_iff_eq.mpr c5
    clear c5
    replace H := Option.bind_eq_some_iff.mp H
    obtain ⟨⟨t374, t375, t378, t381, t382⟩, A60, H⟩ := H
    replace H : (if a1 ≥ t374 then (some (t374, t375, t378, t381, t382, 1)) else (if (a2.size : Int) > 512 then (some (t374, t375, t378, t381, t382, 2)) else ((cambiumref03_Cut.f k a2).bind fun t383 => ((cambiumref03_put.f k t375 a1 t383).bind fun t384 => (some (t374, t384, t378, t381, t382, 0)))))) = some (r1, r2, r3, r4, r5, r6) := H
    have A6 := Aside0.mk A60
    clear A60
    by_cases c7 : a1 ≥ t374
    · rw [if_pos c7] at H
      have c7b0 : decide (t374 ≤ a1) = true := decide_eq_true c7
      clear c7
      simp only [Option.some.injEq, Prod.mk.injEq] at H
      obtain ⟨rfl, rfl, rfl, rfl, rfl, rfl⟩ := H
      go_enter Tryd.func27, Tryd.ntmps27
      go_wp2_with (first | ((with_reducible refine gate_dst (N := 3) rfl ?_); refine bx_ (N := 3) (cs := #[.int .u32 a0_0, .slice A0_1 l0_1.length c0_1, .slice A0_2 l0_2.length c0_2, .bool a0_3, .int .i64 a0_4]) (t := 25) ?_; intro gb371 hg w8 hbox hb; have BK371 := Aside0.mk (hbox); have GW371 := ge_ hg; have GE371 := ge_ hg; replace HB := hb_ hb; clear hb hbox hg) | ((with_reducible refine gate_dst (N := 6) rfl ?_); refine bx_ (N := 6) (cs := #[.int .u32 0, .slice none 0 0, .slice none 0 0, .bool false, .int .i64 0]) (t := 25) ?_; intro gb372 hg w9 hbox hb; have BK372 := Aside0.mk (hbox); have GW372 := ge_ hg; have GE372 := ge_ hg; have NB371_372 := nl_ BK371 hg; have NB372_371 := ng_ BK371 hg; replace BK371 := kb_ BK371 hb; replace HB := hb_ hb; clear hb hbox hg; have hnb10 := NB371_372.out; have hnc10 := NB372_371.out; obtain ⟨hcz11_0, hcz11_1, hcz11_2, hcz11_3, hcz11_4⟩ := cl5_ BK371; obtain ⟨hfz11_0, hfz11_1, hfz11_2, hfz11_3, hfz11_4⟩ := fz5_ BK371) | ((with_reducible refine gate_callee (f := 22) rfl ?_); refine gl_ (some 9) Tryd.func22 #[.agg #[.int .u32 a0_0, .slice A0_1 l0_1.length c0_1, .slice A0_2 l0_2.length c0_2, .bool a0_3, .int .i64 a0_4]] ?_; (with_reducible refine (cambiumref03_Check.calls k a0_0 _ _ l0_1 _ _ l0_2 a0_3 a0_4 t373 _ ?side1 ?side2 ?side3 ?side4 A4.out).mono ?_); (case side1 => exact cb_ HR0_1); (case side2 => exact HC0_1.out); (case side3 => exact cb_ HR0_2); (case side4 => exact HC0_2.out); rintro e w12 ⟨rfl, hb⟩; refine ⟨_, rfl, ?_⟩; replace BK371 := kb_ BK371 hb; replace BK372 := kb_ BK372 hb; replace HB := hb_ hb; (try clear hb); (try clear hb2); (try clear hk); (try clear hi); obtain ⟨hcz13_0, hcz13_1, hcz13_2, hcz13_3, hcz13_4⟩ := cl5_ BK371; obtain ⟨hfz13_0, hfz13_1, hfz13_2, hfz13_3, hfz13_4⟩ := fz5_ BK371) | ((with_reducible refine gate_callee (f := 12) rfl ?_); refine gl_ (some 13) Tryd.func12 #[.agg #[.int .u32 a0_0, .slice A0_1 l0_1.length c0_1, .slice A0_2 l0_2.length c0_2, .bool a0_3, .int .i64 a0_4]] ?_; (with_reducible refine (cambiumref03_Copy.calls a0_0 _ _ l0_1 _ _ l0_2 a0_3 a0_4 t374 t375 t378 t381 t382 _ ?side1 ?side2 ?side3 ?side4 A6.out).mono ?_); (case side1 => exact cb_ HR0_1); (case side2 => exact HC0_1.out); (case side3 => exact cb_ HR0_2); (case side4 => exact HC0_2.out); rintro e w14 ⟨v376, v379, rfl, ho0, ho1, hb⟩; refine ⟨_, rfl, ?_⟩; have HO377 := rl_ ho0; have HO380 := rl_ ho1; replace BK371 := kb_ BK371 hb; replace BK372 := kb_ BK372 hb; replace HB := hb_ hb; (try clear hb); (try clear hb2); (try clear hk); (try clear hi); (try clear ho0); (try clear ho1); obtain ⟨hcz15_0, hcz15_1, hcz15_2, hcz15_3, hcz15_4⟩ := cl5_ BK371; obtain ⟨hfz15_0, hfz15_1, hfz15_2, hfz15_3, hfz15_4⟩ := fz5_ BK371; obtain ⟨Ao16, co16, eo16⟩ := Kd.R_slice HO377.out; subst eo16; obtain ⟨Ao17, co17, eo17⟩ := Kd.R_slice HO380.out; subst eo17; obtain ⟨hcz18_0, hcz18_1, hcz18_2, hcz18_3, hcz18_4⟩ := cl5_ BK372; obtain ⟨hfz18_0, hfz18_1, hfz18_2, hfz18_3, hfz18_4⟩ := fz5_ BK372))
      refine bodyPost_ret (results_ct rfl _ _ gb372 25 #[.int .u32 t374, .slice Ao16 t375.length co16, .slice Ao17 t378.length co17, .bool t381, .int .i64 t382] (0, 0) _ rfl (bs_) Tryd.underlying25 rfl (by kernel_rfl)) rfl ?_
      exact ⟨_, _, by first | rfl | (simp [errW_none, errW_some] <;> rfl) | (simp [*, errW_none, errW_some] <;> rfl), rw_ HO377, rw_ HO380, bel_⟩
    rw [if_neg c7] at H
    have c7b0 : decide (t374 ≤ a1) = false := decide_eq_false c7
    clear c7
    by_cases c19 : (a2.size : Int) > 512
    · rw [if_pos c19] at H
      have c19b0 : decide (512 < (a2.size : Int)) = true := decide_eq_true c19
      have c19b1 : decide (512 < a2.size) = true := decide_eq_true (by omega)
      clear c19
      simp only [Option.some.injEq, Prod.mk.injEq] at H
      obtain ⟨rfl, rfl, rfl, rfl, rfl, rfl⟩ := H
      go_enter Tryd.func27, Tryd.ntmps27
      go_wp2_with (first | ((with_reducible refine gate_dst (N := 3) rfl ?_); refine bx_ (N := 3) (cs := #[.int .u32 a0_0, .slice A0_1 l0_1.length c0_1, .slice A0_2 l0_2.length c0_2, .bool a0_3, .int .i64 a0_4]) (t := 25) ?_; intro gb371 hg w20 hbox hb; have BK371 := Aside0.mk (hbox); have GW371 := ge_ hg; have GE371 := ge_ hg; replace HB := hb_ hb; clear hb hbox hg) | ((with_reducible refine gate_dst (N := 6) rfl ?_); refine bx_ (N := 6) (cs := #[.int .u32 0, .slice none 0 0, .slice none 0 0, .bool false, .int .i64 0]) (t := 25) ?_; intro gb372 hg w21 hbox hb; have BK372 := Aside0.mk (hbox); have GW372 := ge_ hg; have GE372 := ge_ hg; have NB371_372 := nl_ BK371 hg; have NB372_371 := ng_ BK371 hg; replace BK371 := kb_ BK371 hb; replace HB := hb_ hb; clear hb hbox hg; have hnb22 := NB371_372.out; have hnc22 := NB372_371.out; obtain ⟨hcz23_0, hcz23_1, hcz23_2, hcz23_3, hcz23_4⟩ := cl5_ BK371; obtain ⟨hfz23_0, hfz23_1, hfz23_2, hfz23_3, hfz23_4⟩ := fz5_ BK371) | ((with_reducible refine gate_callee (f := 22) rfl ?_); refine gl_ (some 9) Tryd.func22 #[.agg #[.int .u32 a0_0, .slice A0_1 l0_1.length c0_1, .slice A0_2 l0_2.length c0_2, .bool a0_3, .int .i64 a0_4]] ?_; (with_reducible refine (cambiumref03_Check.calls k a0_0 _ _ l0_1 _ _ l0_2 a0_3 a0_4 t373 _ ?side1 ?side2 ?side3 ?side4 A4.out).mono ?_); (case side1 => exact cb_ HR0_1); (case side2 => exact HC0_1.out); (case side3 => exact cb_ HR0_2); (case side4 => exact HC0_2.out); rintro e w24 ⟨rfl, hb⟩; refine ⟨_, rfl, ?_⟩; replace BK371 := kb_ BK371 hb; replace BK372 := kb_ BK372 hb; replace HB := hb_ hb; (try clear hb); (try clear hb2); (try clear hk); (try clear hi); obtain ⟨hcz25_0, hcz25_1, hcz25_2, hcz25_3, hcz25_4⟩ := cl5_ BK371; obtain ⟨hfz25_0, hfz25_1, hfz25_2, hfz25_3, hfz25_4⟩ := fz5_ BK371) | ((with_reducible refine gate_callee (f := 12) rfl ?_); refine gl_ (some 13) Tryd.func12 #[.agg #[.int .u32 a0_0, .slice A0_1 l0_1.length c0_1, .slice A0_2 l0_2.length c0_2, .bool a0_3, .int .i64 a0_4]] ?_; (with_reducible refine (cambiumref03_Copy.calls a0_0 _ _ l0_1 _ _ l0_2 a0_3 a0_4 t374 t375 t378 t381 t382 _ ?side1 ?side2 ?side3 ?side4 A6.out).mono ?_); (case side1 => exact cb_ HR0_1); (case side2 => exact HC0_1.out); (case side3 => exact cb_ HR0_2); (case side4 => exact HC0_2.out); rintro e w26 ⟨v376, v379, rfl, ho0, ho1, hb⟩; refine ⟨_, rfl, ?_⟩; have HO377 := rl_ ho0; have HO380 := rl_ ho1; replace BK371 := kb_ BK371 hb; replace BK372 := kb_ BK372 hb; replace HB := hb_ hb; (try clear hb); (try clear hb2); (try clear hk); (try clear hi); (try clear ho0); (try clear ho1); obtain ⟨hcz27_0, hcz27_1, hcz27_2, hcz27_3, hcz27_4⟩ := cl5_ BK371; obtain ⟨hfz27_0, hfz27_1, hfz27_2, hfz27_3, hfz27_4⟩ := fz5_ BK371; obtain ⟨Ao28, co28, eo28⟩ := Kd.R_slice HO377.out; subst eo28; obtain ⟨Ao29, co29, eo29⟩ := Kd.R_slice HO380.out; subst eo29; obtain ⟨hcz30_0, hcz30_1, hcz30_2, hcz30_3, hcz30_4⟩ := cl5_ BK372; obtain ⟨hfz30_0, hfz30_1, hfz30_2, hfz30_3, hfz30_4⟩ := fz5_ BK372))
      refine bodyPost_ret (results_ct rfl _ _ gb372 25 #[.int .u32 t374, .slice Ao28 t375.length co28, .slice Ao29 t378.length co29, .bool t381, .int .i64 t382] (0, 0) _ rfl (bs_) Tryd.underlying25 rfl (by kernel_rfl)) rfl ?_
      exact ⟨_, _, by first | rfl | (simp [errW_none, errW_some] <;> rfl) | (simp [*, errW_none, errW_some] <;> rfl), rw_ HO377, rw_ HO380, bel_⟩
    rw [if_neg c19] at H
    have c19b0 : decide (512 < (a2.size : Int)) = false := decide_eq_false c19
    have c19b1 : decide (512 < a2.size) = false := decide_eq_false (by omega)
    clear c19
    replace H := Option.bind_eq_some_iff.mp H
    obtain ⟨t383, A310, H⟩ := H
    replace H : ((cambiumref03_put.f k t375 a1 t383).bind fun t384 => (some (t374, t384, t378, t381, t382, 0))) = some (r1, r2, r3, r4, r5, r6) := H
    have A31 := Aside0.mk A310
    clear A310
    replace H := Option.bind_eq_some_iff.mp H
    obtain ⟨t384, A320, H⟩ := H
    replace H : (some (t374, t384, t378, t381, t382, 0)) = some (r1, r2, r3, r4, r5, r6) := H
    have A32 := Aside0.mk A320
    clear A320
    simp only [Option.some.injEq, Prod.mk.injEq] at H
    obtain ⟨rfl, rfl, rfl, rfl, rfl, rfl⟩ := H
    go_enter Tryd.func27, Tryd.ntmps27
    try go_wp2_with (first | ((with_reducible refine gate_dst (N := 3) rfl ?_); refine bx_ (N := 3) (cs := #[.int .u32 a0_0, .slice A0_1 l0_1.length c0_1, .slice A0_2 l0_2.length c0_2, .bool a0_3, .int .i64 a0_4]) (t := 25) ?_; intro gb371 hg w33 hbox hb; have BK371 := Aside0.mk (hbox); have GW371 := ge_ hg; have GE371 := ge_ hg; replace HB := hb_ hb; clear hb hbox hg) | ((with_reducible refine gate_dst (N := 6) rfl ?_); refine bx_ (N := 6) (cs := #[.int .u32 0, .slice none 0 0, .slice none 0 0, .bool false, .int .i64 0]) (t := 25) ?_; intro gb372 hg w34 hbox hb; have BK372 := Aside0.mk (hbox); have GW372 := ge_ hg; have GE372 := ge_ hg; have NB371_372 := nl_ BK371 hg; have NB372_371 := ng_ BK371 hg; replace BK371 := kb_ BK371 hb; replace HB := hb_ hb; clear hb hbox hg; have hnb35 := NB371_372.out; have hnc35 := NB372_371.out; obtain ⟨hcz36_0, hcz36_1, hcz36_2, hcz36_3, hcz36_4⟩ := cl5_ BK371; obtain ⟨hfz36_0, hfz36_1, hfz36_2, hfz36_3, hfz36_4⟩ := fz5_ BK371) | ((with_reducible refine gate_callee (f := 22) rfl ?_); refine gl_ (some 9) Tryd.func22 #[.agg #[.int .u32 a0_0, .slice A0_1 l0_1.length c0_1, .slice A0_2 l0_2.length c0_2, .bool a0_3, .int .i64 a0_4]] ?_; (with_reducible refine (cambiumref03_Check.calls k a0_0 _ _ l0_1 _ _ l0_2 a0_3 a0_4 t373 _ ?side1 ?side2 ?side3 ?side4 A4.out).mono ?_); (case side1 => exact cb_ HR0_1); (case side2 => exact HC0_1.out); (case side3 => exact cb_ HR0_2); (case side4 => exact HC0_2.out); rintro e w37 ⟨rfl, hb⟩; refine ⟨_, rfl, ?_⟩; replace BK371 := kb_ BK371 hb; replace BK372 := kb_ BK372 hb; replace HB := hb_ hb; (try clear hb); (try clear hb2); (try clear hk); (try clear hi); obtain ⟨hcz38_0, hcz38_1, hcz38_2, hcz38_3, hcz38_4⟩ := cl5_ BK371; obtain ⟨hfz38_0, hfz38_1, hfz38_2, hfz38_3, hfz38_4⟩ := fz5_ BK371) | ((with_reducible refine gate_callee (f := 12) rfl ?_); refine gl_ (some 13) Tryd.func12 #[.agg #[.int .u32 a0_0, .slice A0_1 l0_1.length c0_1, .slice A0_2 l0_2.length c0_2, .bool a0_3, .int .i64 a0_4]] ?_; (with_reducible refine (cambiumref03_Copy.calls a0_0 _ _ l0_1 _ _ l0_2 a0_3 a0_4 t374 t375 t378 t381 t382 _ ?side1 ?side2 ?side3 ?side4 A6.out).mono ?_); (case side1 => exact cb_ HR0_1); (case side2 => exact HC0_1.out); (case side3 => exact cb_ HR0_2); (case side4 => exact HC0_2.out); rintro e w39 ⟨v376, v379, rfl, ho0, ho1, hb⟩; refine ⟨_, rfl, ?_⟩; have HO377 := rl_ ho0; have HO380 := rl_ ho1; replace BK371 := kb_ BK371 hb; replace BK372 := kb_ BK372 hb; replace HB := hb_ hb; (try clear hb); (try clear hb2); (try clear hk); (try clear hi); (try clear ho0); (try clear ho1); obtain ⟨hcz40_0, hcz40_1, hcz40_2, hcz40_3, hcz40_4⟩ := cl5_ BK371; obtain ⟨hfz40_0, hfz40_1, hfz40_2, hfz40_3, hfz40_4⟩ := fz5_ BK371; obtain ⟨Ao41, co41, eo41⟩ := Kd.R_slice HO377.out; subst eo41; obtain ⟨Ao42, co42, eo42⟩ := Kd.R_slice HO380.out; subst eo42))
    have n0_ : Aside0 (Kd.R k39 39 (((((w39.setCell ⟨gb371, 0, none⟩ (.int .u32 t374)).setCell ⟨gb371, 1, none⟩ (.slice Ao41 t375.length co41)).setCell ⟨gb371, 2, none⟩ (.slice Ao42 t378.length co42)).setCell ⟨gb371, 3, none⟩ (.bool t381)).setCell ⟨gb371, 4, none⟩ (.int .i64 t382)) w.heap.size (fun k_ => some k_ ≠ (.slice Ao42 t378.length co42 : Value).ownBlock) (.slice Ao41 t375.length co41) t375) := ⟨rw_ HO377⟩
    have n1_ : Aside0 (Kd.R k39 39 (((((w39.setCell ⟨gb371, 0, none⟩ (.int .u32 t374)).setCell ⟨gb371, 1, none⟩ (.slice Ao41 t375.length co41)).setCell ⟨gb371, 2, none⟩ (.slice Ao42 t378.length co42)).setCell ⟨gb371, 3, none⟩ (.bool t381)).setCell ⟨gb371, 4, none⟩ (.int .i64 t382)) w.heap.size (fun k_ => some k_ ≠ (.slice Ao41 t375.length co41 : Value).ownBlock) (.slice Ao42 t378.length co42) t378) := ⟨rw_ HO380⟩
    have n2_ : Aside0 ((((((w39.setCell ⟨gb371, 0, none⟩ (.int .u32 t374)).setCell ⟨gb371, 1, none⟩ (.slice Ao41 t375.length co41)).setCell ⟨gb371, 2, none⟩ (.slice Ao42 t378.length co42)).setCell ⟨gb371, 3, none⟩ (.bool t381)).setCell ⟨gb371, 4, none⟩ (.int .i64 t382)).heap[gb371]? = some (.cells #[.int .u32 t374, .slice Ao41 t375.length co41, .slice Ao42 t378.length co42, .bool t381, .int .i64 t382] 25 (0, 0))) := ⟨bs_⟩
    have n3_ : Aside0 ((((((w39.setCell ⟨gb371, 0, none⟩ (.int .u32 t374)).setCell ⟨gb371, 1, none⟩ (.slice Ao41 t375.length co41)).setCell ⟨gb371, 2, none⟩ (.slice Ao42 t378.length co42)).setCell ⟨gb371, 3, none⟩ (.bool t381)).setCell ⟨gb371, 4, none⟩ (.int .i64 t382)).heap[gb372]? = some (.cells #[.int .u32 0, .slice none 0 0, .slice none 0 0, .bool false, .int .i64 0] 25 (0, 0))) := ⟨bs_⟩
    have n4_ : Aside0 (Below w.heap.size w (((((w39.setCell ⟨gb371, 0, none⟩ (.int .u32 t374)).setCell ⟨gb371, 1, none⟩ (.slice Ao41 t375.length co41)).setCell ⟨gb371, 2, none⟩ (.slice Ao42 t378.length co42)).setCell ⟨gb371, 3, none⟩ (.bool t381)).setCell ⟨gb371, 4, none⟩ (.int .i64 t382))) := ⟨bel_⟩
    (try clear HO377)
    (try clear HO380)
    (try clear BK371)
    (try clear BK372)
    (try clear HB)
    generalize (((((w39.setCell ⟨gb371, 0, none⟩ (.int .u32 t374)).setCell ⟨gb371, 1, none⟩ (.slice Ao41 t375.length co41)).setCell ⟨gb371, 2, none⟩ (.slice Ao42 t378.length co42)).setCell ⟨gb371, 3, none⟩ (.bool t381)).setCell ⟨gb371, 4, none⟩ (.int .i64 t382)) = w43 at n0_ n1_ n2_ n3_ n4_ ⊢
    have HO377 := n0_
    have HO380 := n1_
    have BK371 := n2_
    have BK372 := n3_
    have HB := n4_
    clear n0_ n1_ n2_ n3_ n4_
    replace HO377 := Aside0.mk (Kd.R_drew HO377.out)
    replace HO380 := Aside0.mk (Kd.R_drew HO380.out)
    replace BK371 := Aside0.mk (blk_drew BK371.out)
    replace BK372 := Aside0.mk (blk_drew BK372.out)
    replace HB := Aside0.mk (below_drew1 HB.out)
    refine start_ (n := 9) (S := fun w' => w'.cell? ⟨gb371, 0, none⟩ = some (.int .u32 t374) ∧ w'.cell? ⟨gb371, 1, none⟩ = some (.slice Ao41 t375.length co41) ∧ w'.cell? ⟨gb371, 2, none⟩ = some (.slice Ao42 t378.length co42) ∧ w'.cell? ⟨gb371, 3, none⟩ = some (.bool t381) ∧ w'.cell? ⟨gb371, 4, none⟩ = some (.int .i64 t382)) (ds := [8]) #[false, false, false, false, false, false, false, false, false] (by kernel_rfl) rfl rfl hc_ (fun hHeld => ?_); refine with_tabW cambiumref03_Spoil.tab8 cambiumref03_Spoil.bits8 (fun HT_ HW_ => ?_)
    generalize w43.drew = w44 at HO377 HO380 BK371 BK372 HB hHeld ⊢
    refine pu_ 0 23 ?_
    refine pu_ 2 25 ?_
    refine pu_ 3 26 ?_
    refine tk5_ 1 24 ?_
    refine on_ 4 27 (fun K hK => ?_)
    refine goes_ Tryd.func24 (by kernel_rfl) rfl #[.string a2] (by rfl) rfl rfl (by (try simp only [List.map_toArray, List.map_cons, List.map_nil]); first | done | rfl | (simp only [List.length_drop, List.length_take]; rfl)) ?_
    with_reducible refine (cambiumref03_Cut.calls k a2 t383 _ A31.out).mono ?_
    rintro e w' ⟨rfl, ⟨nd, rfl⟩⟩
    refine ⟨_, rfl, ?_⟩
    refine hK.out _ _ hc_ (fun hHeld => ?_)
    clear hK K
    refine nm_ 27 ?_
    refine pu_ 5 28 ?_
    refine on_ 6 29 (fun K hK => ?_)
    refine goes_ Tryd.func32 (by kernel_rfl) rfl #[.slice Ao41 t375.length co41, .agg #[.int .u32 a1, .string t383]] (by rfl) rfl rfl (by (try simp only [List.map_toArray, List.map_cons, List.map_nil]); first | done | rfl | (simp only [List.length_drop, List.length_take]; rfl)) ?_
    with_reducible refine (cambiumref03_put.calls k _ _ t375 a1 t383 t384 _ ?side1 ?side2 A32.out).mono ?_
    (case side1 => exact cr_ HO377)
    (case side2 => exact (Kd.R_reads' HO377.out).2.1)
    rintro e w45 ⟨v385, rfl, ho0, hb⟩
    refine ⟨_, rfl, ?_⟩
    have HO386 := Aside0.mk (Kd.R_lower (Kd.R_new' (Kd.R_new' ho0 (Kd.R_lt (ra_ HO377))) (Kd.R_lt (ra_ HO380))) (below_size bel_))
    replace HO377 := Aside0.mk (Kd.R_elder' (ra_ HO377) (Kd.R_base ho0) hb)
    replace HO380 := Aside0.mk (Kd.R_elder' (ra_ HO380) (Kd.R_base ho0) hb)
    replace BK371 := kb_ BK371 hb
    replace BK372 := kb_ BK372 hb
    replace HB := hb_ hb
    (try clear hb)
    (try clear hb2)
    (try clear hk)
    (try clear hi)
    (try clear ho0)
    obtain ⟨Ao46, co46, eo46⟩ := Kd.R_slice HO386.out
    (first | subst eo46 | (injection eo46 with f1_ f2_ f3_; have f4_ := f1_.symm; have f5_ := f3_.symm; clear f1_ f2_ f3_; subst f4_; subst f5_))
    refine hK.out _ _ hc_ (fun hHeld => ?_)
    clear hK K
    refine nm_ 29 ?_
    refine pu_ 7 30 ?_
    refine last_ (i := 8) (N := none) #[true, true, true, true, true, true, true, true, true] rfl rfl (one_of HT_.out (by kernel_rfl)) (by decide) (fun K hK => ?_)
    have hs47 : w45.cell? ⟨gb371, 1, none⟩ = some (.slice Ao41 t375.length co41) := (blk_cell BK371.out 1).trans rfl
    have hfs47 := blk_frozen BK371.out 1
    have hns47_1 := NB372_371.out
    have hms47_1 := NB371_372.out
    refine skip_ (w1 := ?_) (by rfl) rfl ?_ ?_
    rotate_left
    · go_simp
      rfl
    refine hK.out _ _ ?_
    clear hK K
    refine done_ (done_of HT_.out (by kernel_rfl)) ?_
    obtain ⟨hcz48_0, hcz48_1, hcz48_2, hcz48_3, hcz48_4⟩ := cl5_ BK371
    obtain ⟨hfz48_0, hfz48_1, hfz48_2, hfz48_3, hfz48_4⟩ := fz5_ BK371
    obtain ⟨hcz49_0, hcz49_1, hcz49_2, hcz49_3, hcz49_4⟩ := cl5_ BK372
    obtain ⟨hfz49_0, hfz49_1, hfz49_2, hfz49_3, hfz49_4⟩ := fz5_ BK372
    try go_wp2
    refine bodyPost_ret (results_ct rfl _ _ gb372 25 #[.int .u32 t374, .slice Ao46 t384.length co46, .slice Ao42 t378.length co42, .bool t381, .int .i64 t382] (0, 0) _ rfl (bs_) Tryd.underlying25 rfl (by kernel_rfl)) rfl ?_
    exact ⟨_, _, by first | rfl | (simp [errW_none, errW_some] <;> rfl) | (simp [*, errW_none, errW_some] <;> rfl), by (with_reducible repeat (first | apply Kd.R_alloc | apply Kd.R_drewN | apply Kd.R_drew)); exact Kd.R_mono (Kd.R_far (p := ⟨gb372, 4, none⟩) (Kd.R_far (p := ⟨gb372, 3, none⟩) (Kd.R_far (p := ⟨gb372, 2, none⟩) (Kd.R_far (p := ⟨gb372, 1, none⟩) (Kd.R_far (p := ⟨gb372, 0, none⟩) (Kd.R_far (p := ⟨gb371, 1, none⟩) (Kd.R_types (Kd.R_types HO386.out BK371.out (by decide)) BK372.out (by decide)) (fun _ hk => hk.1.2) (.slice Ao46 t384.length co46)) (fun _ hk => hk.2) (.int .u32 t374)) (fun _ hk => hk.2) (.slice Ao46 t384.length co46)) (fun _ hk => hk.2) (.slice Ao42 t378.length co42)) (fun _ hk => hk.2) (.bool t381)) (fun _ hk => hk.2) (.int .i64 t382)) (fun _ hk => hk.1.1.2), by (with_reducible repeat (first | apply Kd.R_alloc | apply Kd.R_drewN | apply Kd.R_drew)); exact Kd.R_mono (Kd.R_far (p := ⟨gb372, 4, none⟩) (Kd.R_far (p := ⟨gb372, 3, none⟩) (Kd.R_far (p := ⟨gb372, 2, none⟩) (Kd.R_far (p := ⟨gb372, 1, none⟩) (Kd.R_far (p := ⟨gb372, 0, none⟩) (Kd.R_far (p := ⟨gb371, 1, none⟩) (Kd.R_types (Kd.R_types HO380.out BK371.out (by decide)) BK372.out (by decide)) (fun _ hk => hk.1.2) (.slice Ao46 t384.length co46)) (fun _ hk => hk.2) (.int .u32 t374)) (fun _ hk => hk.2) (.slice Ao46 t384.length co46)) (fun _ hk => hk.2) (.slice Ao42 t378.length co42)) (fun _ hk => hk.2) (.bool t381)) (fun _ hk => hk.2) (.int .i64 t382)) (fun _ hk => hk.1.1.2), bel_⟩
  rw [if_neg c5] at H
  have c5b0 : (t373 == 0) = false := beq_eq_false_iff_ne.mpr c5
  have c5b1 : (t373 != 0) = true := bne_iff_ne.mpr c5
  simp only [Option.some.injEq, Prod.mk.injEq] at H
  obtain ⟨rfl, rfl, rfl, rfl, rfl, rfl⟩ := H
  go_enter Tryd.func27, Tryd.ntmps27
  go_wp2_with (first | ((with_reducible refine gate_dst (N := 3) rfl ?_); refine bx_ (N := 3) (cs := #[.int .u32 a0_0, .slice A0_1 l0_1.length c0_1, .slice A0_2 l0_2.length c0_2, .bool a0_3, .int .i64 a0_4]) (t := 25) ?_; intro gb371 hg w50 hbox hb; have BK371 := Aside0.mk (hbox); have GW371 := ge_ hg; have GE371 := ge_ hg; replace HB := hb_ hb; clear hb hbox hg) | ((with_reducible refine gate_dst (N := 6) rfl ?_); refine bx_ (N := 6) (cs := #[.int .u32 0, .slice none 0 0, .slice none 0 0, .bool false, .int .i64 0]) (t := 25) ?_; intro gb372 hg w51 hbox hb; have BK372 := Aside0.mk (hbox); have GW372 := ge_ hg; have GE372 := ge_ hg; have NB371_372 := nl_ BK371 hg; have NB372_371 := ng_ BK371 hg; replace BK371 := kb_ BK371 hb; replace HB := hb_ hb; clear hb hbox hg; have hnb52 := NB371_372.out; have hnc52 := NB372_371.out; obtain ⟨hcz53_0, hcz53_1, hcz53_2, hcz53_3, hcz53_4⟩ := cl5_ BK371; obtain ⟨hfz53_0, hfz53_1, hfz53_2, hfz53_3, hfz53_4⟩ := fz5_ BK371) | ((with_reducible refine gate_callee (f := 22) rfl ?_); refine gl_ (some 9) Tryd.func22 #[.agg #[.int .u32 a0_0, .slice A0_1 l0_1.length c0_1, .slice A0_2 l0_2.length c0_2, .bool a0_3, .int .i64 a0_4]] ?_; (with_reducible refine (cambiumref03_Check.calls k a0_0 _ _ l0_1 _ _ l0_2 a0_3 a0_4 t373 _ ?side1 ?side2 ?side3 ?side4 A4.out).mono ?_); (case side1 => exact cb_ HR0_1); (case side2 => exact HC0_1.out); (case side3 => exact cb_ HR0_2); (case side4 => exact HC0_2.out); rintro e w54 ⟨rfl, hb⟩; refine ⟨_, rfl, ?_⟩; replace BK371 := kb_ BK371 hb; replace BK372 := kb_ BK372 hb; replace HB := hb_ hb; (try clear hb); (try clear hb2); (try clear hk); (try clear hi); obtain ⟨hcz55_0, hcz55_1, hcz55_2, hcz55_3, hcz55_4⟩ := cl5_ BK372; obtain ⟨hfz55_0, hfz55_1, hfz55_2, hfz55_3, hfz55_4⟩ := fz5_ BK372))
  refine bodyPost_ret (results_ct rfl _ _ gb372 25 #[.int .u32 0, .slice none 0 0, .slice none 0 0, .bool false, .int .i64 0] (0, 0) _ rfl (bs_) Tryd.underlying25 rfl (by kernel_rfl)) rfl ?_
  exact ⟨_, _, by first | rfl | (simp [errW_none, errW_some] <;> rfl) | (simp [*, errW_none, errW_some] <;> rfl), by first | exact Kd.R_nil _ _ _ _ _ | exact Kd.N_nil _ _ _ _ _ | exact Kd.V_nil _ _ _ _ _ | exact Kd.Q_nil _ _ _ _ _ | exact Kd.S_nil _ _ _ _ _, by first | exact Kd.R_nil _ _ _ _ _ | exact Kd.N_nil _ _ _ _ _ | exact Kd.V_nil _ _ _ _ _ | exact Kd.Q_nil _ _ _ _ _ | exact Kd.S_nil _ _ _ _ _, bel_⟩

end Go.Proofs.YtcphflfjhkeooaaDoor.Z
end

section
/- What the reference's functions on devices come to. -/
namespace Go.Proofs.YtcphflfjhkeooaaDoor.Z
open Go.RowKit Go.Proofs.YtcphflfjhkeooaaDoorW.PrintWords Go.Proofs.YtcphflfjhkeooaaDoorW.PrintLast
set_option linter.unusedVariables false
theorem succ64 {i : Nat} (h : i < 9223372036854775807) : wrap64 ((i : Int) + 1) = ((i + 1 : Nat) : Int) := by rw [w64 (by omega) (by omega)]; omega
theorem refRight (a : ByteArray) : ∃ b, cambiumref03_right.f a = some b ∧ (b = true ↔ a.size ≤ 512 ∧ trimB a = a) := by
  unfold cambiumref03_right.f
  by_cases h1 : (a.size : Int) ≤ 512
  · rw [if_pos h1]
    by_cases h2 : a.toList = []
    · rw [if_pos h2]
      rw [toList_nil] at h2
      refine ⟨true, rfl, ?_⟩
      simp only [true_iff]
      exact ⟨by omega, by rw [size_zero h2]; rfl⟩
    · rw [if_neg h2]
      rw [toList_nil] at h2
      have e : wrap64 ((a.size : Int) - 1) = ((a.size - 1 : Nat) : Int) := by rw [w64 (by omega) (by omega)]; omega
      rw [e, if_pos (by omega), if_pos (by omega)]
      refine ⟨_, rfl, ?_⟩
      have hl : a.data.toList.length = a.size := by simp
      obtain ⟨m, b, hmb⟩ : ∃ m b, a.data.toList = m ++ [b] := by
        rcases List.eq_nil_or_concat a.data.toList with e | ⟨m, b, e⟩
        · rw [e] at hl; simp at hl; omega
        · exact ⟨m, b, by rw [e, List.concat_eq_append]⟩
      have hml : m.length = a.size - 1 := by rw [hmb] at hl; simp at hl; omega
      have hb : bt a ((a.size - 1 : Nat) : Int) = (b.toNat : Int) := by
        rw [bt_get a _ (by omega)]
        congr 2
        simp only [hmb]
        rw [List.getElem_append_right (by omega)]
        simp [hml]
      rw [hb, bne_iff_ne, ne_eq, byte_zero]
      constructor
      · intro hz
        refine ⟨by omega, ?_⟩
        unfold trimB
        rw [hmb, trimL_snoc, if_neg hz, ← hmb]
      · rintro ⟨_, ht⟩ hz
        unfold trimB at ht
        rw [hmb, trimL_snoc, if_pos hz] at ht
        have h3 := congrArg ByteArray.size ht
        have h4 := trimL_length m
        simp only [ByteArray.size, List.size_toArray] at h3
        have h5 : a.data.size = a.size := rfl
        omega
  · rw [if_neg h1]
    exact ⟨false, rfl, by simp; omega⟩
theorem rCheck_l1 (s : Int) (bl wl : List Bk) (d : Bool) (f : Int) (hw : Num0 wl) (hl : wl.length ≤ maxLen) : ∀ dd i : Nat, wl.length = i + dd →
    ∃ b, Ev (fun k => cambiumref03_Check.l1 k wl (wl.length : Int) (i : Int) s bl wl d f) (ckC b) ∧ (b = true ↔ ∀ x ∈ wl.drop i, okB s x)
  | 0, i, hi => by
    refine ⟨true, Ev.step (fun k => by rw [cambiumref03_Check.l1]) ?_, ?_⟩
    · exact Ev.ifn (by omega) (Ev.const rfl)
    · rw [List.drop_of_length_le (by omega)]; simp
  | dd + 1, i, hi => by
    have hlt : i < wl.length := by omega
    unfold maxLen at hl
    obtain ⟨b, h1, h2⟩ := rCheck_l1 s bl wl d f hw (by unfold maxLen; omega) dd (i + 1) (by omega)
    rw [List.drop_eq_getElem_cons hlt]
    by_cases c1 : wl[i].f0 ≥ s
    · refine ⟨false, Ev.step (fun k => by rw [cambiumref03_Check.l1]) ?_, ?_⟩
      · exact Ev.ifp (by omega) (Ev.ifp (by omega) (Ev.ifp (by omega) (Ev.ifp (by rw [rd_get wl i hlt]; exact c1) (Ev.const rfl))))
      · constructor
        · intro e; cases e
        · intro e; have := (e wl[i] List.mem_cons_self).2.1; omega
    · obtain ⟨r, hr, hri⟩ := refRight wl[i].f1
      cases r with
      | false =>
        refine ⟨false, Ev.step (fun k => by rw [cambiumref03_Check.l1]) ?_, ?_⟩
        · refine Ev.ifp (by omega) (Ev.ifp (by omega) (Ev.ifp (by omega) (Ev.ifn (by rw [rd_get wl i hlt]; exact c1) ?_)))
          rw [rd_get wl i hlt]
          exact Ev.bindc hr (Ev.ifn (by simp) (Ev.const rfl))
        · constructor
          · intro e; cases e
          · intro e
            have := hri.2 (e wl[i] List.mem_cons_self).2.2
            cases this
      | true =>
        refine ⟨b, Ev.step (fun k => by rw [cambiumref03_Check.l1]) ?_, ?_⟩
        · refine Ev.ifp (by omega) (Ev.ifp (by omega) (Ev.ifp (by omega) (Ev.ifn (by rw [rd_get wl i hlt]; exact c1) ?_)))
          rw [rd_get wl i hlt, succ64 (by omega)]
          exact Ev.bindc hr (Ev.ifp rfl h1)
        · rw [h2]
          constructor
          · intro e x hx
            rcases List.mem_cons.1 hx with rfl | hx
            · exact ⟨hw _ (List.getElem_mem hlt), by omega, hri.1 rfl⟩
            · exact e x hx
          · intro e x hx; exact e x (List.mem_cons_of_mem _ hx)
theorem rCheck_l0 (s : Int) (bl wl : List Bk) (d : Bool) (f : Int) (hb : Num0 bl) (hw : Num0 wl) (hl : bl.length ≤ maxLen) (hl2 : wl.length ≤ maxLen) : ∀ dd i : Nat, bl.length = i + dd →
    ∃ b, Ev (fun k => cambiumref03_Check.l0 k bl (bl.length : Int) (i : Int) s bl wl d f) (ckC b) ∧ (b = true ↔ OkFrom s bl i ∧ ∀ x ∈ wl, okB s x)
  | 0, i, hi => by
    obtain ⟨b, h1, h2⟩ := rCheck_l1 s bl wl d f hw hl2 wl.length 0 (by omega)
    refine ⟨b, Ev.step (fun k => by rw [cambiumref03_Check.l0]) ?_, ?_⟩
    · exact Ev.ifn (by omega) h1
    · rw [h2, List.drop_zero]
      exact ⟨fun h => ⟨okFrom_end (by omega), h⟩, fun h => h.2⟩
  | dd + 1, i, hi => by
    have hlt : i < bl.length := by omega
    have hmax : bl.length ≤ 9223372036854775807 := hl
    obtain ⟨b, h1, h2⟩ := rCheck_l0 s bl wl d f hb hw hl hl2 dd (i + 1) (by omega)
    rw [okFrom_succ hlt]
    have bad : ¬ (okB s bl[i] ∧ bl[i].f1.size ≠ 0 ∧ ∀ q (e : i = q + 1), (bl[q]'(by omega)).f0 < bl[i].f0) → (false = true ↔ ((okB s bl[i] ∧ bl[i].f1.size ≠ 0 ∧ ∀ q (e : i = q + 1), (bl[q]'(by omega)).f0 < bl[i].f0) ∧ OkFrom s bl (i + 1)) ∧ ∀ x ∈ wl, okB s x) :=
      fun hn => ⟨fun e => (by cases e), fun e => absurd e.1.1 hn⟩
    by_cases c1 : bl[i].f0 ≥ s
    · refine ⟨false, Ev.step (fun k => by rw [cambiumref03_Check.l0]) ?_, bad (fun e => by have := e.1.2.1; omega)⟩
      exact Ev.ifp (by omega) (Ev.ifp (by omega) (Ev.ifp (by omega) (Ev.ifp (by rw [rd_get bl i hlt]; exact c1) (Ev.const rfl))))
    · obtain ⟨r, hr, hri⟩ := refRight bl[i].f1
      cases r with
      | false =>
        refine ⟨false, Ev.step (fun k => by rw [cambiumref03_Check.l0]) ?_, bad (fun e => by cases hri.2 e.1.2.2)⟩
        refine Ev.ifp (by omega) (Ev.ifp (by omega) (Ev.ifp (by omega) (Ev.ifn (by rw [rd_get bl i hlt]; exact c1) ?_)))
        rw [rd_get bl i hlt]
        exact Ev.bindc hr (Ev.ifn (by simp) (Ev.const rfl))
      | true =>
        have hok : okB s bl[i] := ⟨hb _ (List.getElem_mem hlt), by omega, hri.1 rfl⟩
        by_cases hz : bl[i].f1.size = 0
        · refine ⟨false, Ev.step (fun k => by rw [cambiumref03_Check.l0]) ?_, bad (fun e => e.2.1 hz)⟩
          refine Ev.ifp (by omega) (Ev.ifp (by omega) (Ev.ifp (by omega) (Ev.ifn (by rw [rd_get bl i hlt]; exact c1) ?_)))
          rw [rd_get bl i hlt]
          exact Ev.bindc hr (Ev.ifp rfl (Ev.ifp (toList_nil.2 hz) (Ev.const rfl)))
        · have hz2 : ¬ bl[i].f1.toList = [] := by rw [toList_nil]; exact hz
          cases i with
          | zero =>
            refine ⟨b, Ev.step (fun k => by rw [cambiumref03_Check.l0]) ?_, ?_⟩
            · refine Ev.ifp (by omega) (Ev.ifp (by omega) (Ev.ifp (by omega) (Ev.ifn (by rw [rd_get bl 0 hlt]; exact c1) ?_)))
              rw [rd_get bl 0 hlt, succ64 (by omega)]
              exact Ev.bindc hr (Ev.ifp rfl (Ev.ifn hz2 (Ev.ifn (by omega) h1)))
            · rw [h2]
              exact ⟨fun e => ⟨⟨⟨hok, hz, fun q e => by omega⟩, e.1⟩, e.2⟩, fun e => ⟨e.1.2, e.2⟩⟩
          | succ j =>
            have e : wrap64 (((j + 1 : Nat) : Int) - 1) = (j : Int) := by rw [w64 (by omega) (by omega)]; omega
            by_cases c2 : bl[j].f0 ≥ bl[j + 1].f0
            · refine ⟨false, Ev.step (fun k => by rw [cambiumref03_Check.l0]) ?_, bad (fun e => by have := e.2.2 j rfl; omega)⟩
              refine Ev.ifp (by omega) (Ev.ifp (by omega) (Ev.ifp (by omega) (Ev.ifn (by rw [rd_get bl (j + 1) hlt]; exact c1) ?_)))
              rw [rd_get bl (j + 1) hlt, e]
              exact Ev.bindc hr (Ev.ifp rfl (Ev.ifn hz2 (Ev.ifp (by omega) (Ev.ifp (by omega) (Ev.ifp (by omega) (Ev.ifp (by rw [rd_get bl j (by omega)]; exact c2) (Ev.const rfl)))))))
            · refine ⟨b, Ev.step (fun k => by rw [cambiumref03_Check.l0]) ?_, ?_⟩
              · refine Ev.ifp (by omega) (Ev.ifp (by omega) (Ev.ifp (by omega) (Ev.ifn (by rw [rd_get bl (j + 1) hlt]; exact c1) ?_)))
                rw [rd_get bl (j + 1) hlt, e, succ64 (by omega)]
                exact Ev.bindc hr (Ev.ifp rfl (Ev.ifn hz2 (Ev.ifp (by omega) (Ev.ifp (by omega) (Ev.ifp (by omega) (Ev.ifn (by rw [rd_get bl j (by omega)]; exact c2) h1))))))
              · rw [h2]
                exact ⟨fun e => ⟨⟨⟨hok, hz, fun q hq => by (obtain rfl : j = q := by omega); omega⟩, e.1⟩, e.2⟩, fun e => ⟨e.1.2, e.2⟩⟩
theorem rCheck (s : Int) (bl wl : List Bk) (d : Bool) (f : Int) (hb : Num0 bl) (hw : Num0 wl) (hl : bl.length ≤ maxLen) (hl2 : wl.length ≤ maxLen) :
    ∃ b, Ev (fun k => cambiumref03_Check.f k s bl wl d f) (ckC b) ∧ (b = true ↔ okDev s bl wl) := by
  have bad : Ev (fun k => cambiumref03_Check.j0 k true s bl wl d f) 7 := by
    refine Ev.step (fun k => by rw [cambiumref03_Check.j0]) ?_
    exact Ev.ifp rfl (Ev.const rfl)
  unfold cambiumref03_Check.f okDev
  by_cases h1 : s < 16
  · refine ⟨false, Ev.ifp h1 bad, ?_⟩
    simp; omega
  · by_cases h2 : s > 65536
    · refine ⟨false, Ev.ifn h1 (Ev.ifp h2 bad), ?_⟩
      simp; omega
    · by_cases h3 : (wl.length : Int) > 16384
      · refine ⟨false, Ev.ifn h1 (Ev.ifn h2 ?_), ?_⟩
        · rw [decide_eq_true h3]; exact bad
        · simp; omega
      · obtain ⟨b, h4, h5⟩ := rCheck_l0 s bl wl d f hb hw hl hl2 bl.length 0 (by omega)
        refine ⟨b, Ev.ifn h1 (Ev.ifn h2 (Ev.step (fun k => by rw [cambiumref03_Check.j0]) ?_)), ?_⟩
        · rw [decide_eq_false h3]
          exact Ev.ifn (by simp) h4
        · rw [h5, okFrom_zero]
          exact ⟨fun e => ⟨by omega, by omega, by omega, e.1, e.2⟩, fun e => ⟨e.2.2.2.1, e.2.2.2.2⟩⟩
variable {s : Int} {bl wl : List Bk}
theorem rCheck_ok (h : okDev s bl wl) (d : Bool) (f : Int) : Ev (fun k => cambiumref03_Check.f k s bl wl d f) 0 := by
  obtain ⟨b, h1, h2⟩ := rCheck s bl wl d f (fun x hx => (h.2.2.2.1.2 x hx).1.1) (fun x hx => (h.2.2.2.2 x hx).1) (by have := okDev_len h; unfold maxLen; omega) (by have := h.2.2.1; unfold maxLen; omega)
  rw [h2.2 h] at h1
  exact h1
theorem rCheck_bad (h : ¬ okDev s bl wl) (hi : Inp s bl wl) (hl2 : wl.length ≤ maxLen) (d : Bool) (f : Int) : Ev (fun k => cambiumref03_Check.f k s bl wl d f) 7 := by
  obtain ⟨b, h1, h2⟩ := rCheck s bl wl d f hi.n1 hi.n2 hi.l1 hl2
  cases b with
  | false => exact h1
  | true => exact absurd (h2.1 rfl) h
theorem copy_f (d : Bool) (f : Int) (h1 : bl.length < 5864062014805) (h2 : wl.length < 5864062014805) : cambiumref03_Copy.f s bl wl d f = some (s, bl, wl, d, f) := by
  unfold cambiumref03_Copy.f
  simp only [Option.bind_some, List.length_nil, Nat.zero_add, if_pos h1, if_pos h2, List.nil_append]
theorem rcopy_ok (h : okDev s bl wl) (d : Bool) (f : Int) : cambiumref03_Copy.f s bl wl d f = some (s, bl, wl, d, f) :=
  copy_f d f (by have := okDev_len h; omega) (by have := h.2.2.1; omega)
-- a block put
def finR (x : Bk) : Bool → List Bk → List Bk
  | done, [] => if done = true then [] else [x]
  | true, y :: r => (if y.f0 = x.f0 then [] else [y]) ++ finR x true r
  | false, y :: r => if y.f0 ≥ x.f0 then x :: ((if y.f0 = x.f0 then [] else [y]) ++ finR x true r) else (if y.f0 = x.f0 then [] else [y]) ++ finR x false r
theorem eta_b (y : Bk) : (⟨y.f0, y.f1⟩ : Bk) = y := rfl
theorem rPut_l0 (l : List Bk) (x : Bk) (hl : l.length ≤ 65536) : ∀ dd i : Nat, l.length = i + dd → ∀ (out : List Bk) (done : Bool), out.length ≤ 2 * i →
    Ev (fun k => cambiumref03_put.l0 k out done l (l.length : Int) (i : Int) x.f0 x.f1) (out ++ finR x done (l.drop i))
  | 0, i, hi, out, done, ho => by
    refine Ev.step (fun k => by rw [cambiumref03_put.l0]) ?_
    rw [List.drop_of_length_le (by omega)]
    cases done with
    | true => exact Ev.ifn (by omega) (Ev.ifp rfl (Ev.const (by simp [finR])))
    | false => exact Ev.ifn (by omega) (Ev.ifn (by simp) (Ev.ifp (by omega) (Ev.const (by simp [finR]))))
  | dd + 1, i, hi, out, done, ho => by
    have hlt : i < l.length := by omega
    rw [List.drop_eq_getElem_cons hlt]
    refine Ev.step (fun k => by rw [cambiumref03_put.l0]) ?_
    refine Ev.ifp (by omega) (Ev.ifp (by omega) (Ev.ifp (by omega) ?_))
    rw [rd_get l i hlt]
    have ih := rPut_l0 l x hl dd (i + 1) (by omega)
    have keep : ∀ dn, Ev (fun k => cambiumref03_put.j1 k out dn l (l.length : Int) (i : Int) false x.f0 x.f1 (l[i]).f0 (l[i]).f1) (out ++ ((if (l[i]).f0 = x.f0 then [] else [l[i]]) ++ finR x dn (l.drop (i + 1)))) := by
      intro dn
      refine Ev.step (fun k => by rw [cambiumref03_put.j1]) ?_
      rw [succ64 (by omega), eta_b]
      refine Ev.ifn (by simp) (Ev.ite (fun hc => ?_) (fun hc => ?_))
      · rw [if_pos hc, List.nil_append]
        exact ih out dn (by omega)
      · rw [if_neg hc]
        refine Ev.ifp (by omega) (Ev.val (ih (out ++ [l[i]]) dn (by simp; omega)) ?_)
        simp
    cases done with
    | true => exact Ev.ifp rfl (keep true)
    | false =>
      refine Ev.ifn (by simp) ?_
      by_cases hc : (l[i]).f0 ≥ x.f0
      · rw [decide_eq_true hc]
        show Ev _ (out ++ (if (l[i]).f0 ≥ x.f0 then _ else _))
        rw [if_pos hc]
        refine Ev.step (fun k => by rw [cambiumref03_put.j1]) ?_
        rw [succ64 (by omega), eta_b, eta_b]
        refine Ev.ifp rfl (Ev.ifp (by omega) (Ev.bindc rfl (Ev.ite (fun hq => ?_) (fun hq => ?_))))
        · rw [if_pos hq]
          refine Ev.val (ih (out ++ [x]) true (by simp; omega)) ?_
          simp
        · rw [if_neg hq]
          refine Ev.ifp (by simp; omega) (Ev.val (ih (out ++ [x] ++ [l[i]]) true (by simp; omega)) ?_)
          simp
      · rw [decide_eq_false hc]
        show Ev _ (out ++ (if (l[i]).f0 ≥ x.f0 then _ else _))
        rw [if_neg hc]
        exact keep false
theorem finR_true (x : Bk) : ∀ r : List Bk, finR x true r = r.filter (fun y => decide (y.f0 ≠ x.f0))
  | [] => rfl
  | y :: r => by
    unfold finR
    rw [finR_true x r, List.filter_cons]
    by_cases h : y.f0 = x.f0 <;> simp [h]
theorem filter_none {r : List Bk} {p : Bk → Bool} (h : ∀ y ∈ r, p y = false) : r.filter p = [] := by
  rw [List.filter_eq_nil_iff]; intro y hy; simp [h y hy]
theorem filter_all {r : List Bk} {p : Bk → Bool} (h : ∀ y ∈ r, p y = true) : r.filter p = r := by
  rw [List.filter_eq_self]; exact h
theorem finR_none {x : Bk} : ∀ {r : List Bk}, Asc r → finR x true r = r.filter (fun y => decide (y.f0 < x.f0)) ++ r.filter (fun y => decide (x.f0 < y.f0))
  | [], _ => rfl
  | y :: r, h => by
    unfold Asc at h
    rw [List.pairwise_cons] at h
    have ih := finR_none (x := x) h.2
    rw [finR_true] at ih ⊢
    rw [List.filter_cons, List.filter_cons, List.filter_cons]
    rcases Int.lt_trichotomy y.f0 x.f0 with hb | hb | hb
    · rw [if_pos (by simp; omega), if_pos (by simpa using hb), if_neg (by simp; omega), ih]; rfl
    · rw [if_neg (by simp; omega), if_neg (by simp; omega), if_neg (by simp; omega), ih]
    · rw [if_pos (by simp; omega), if_neg (by simp; omega), if_pos (by simpa using hb), ih]
      rw [filter_none (p := fun y => decide (y.f0 < x.f0)) (fun z hz => by have := h.1 z hz; simp; omega)]
      rfl
theorem finR_false {x : Bk} : ∀ {r : List Bk}, Asc r → finR x false r = r.filter (fun y => decide (y.f0 < x.f0)) ++ [x] ++ r.filter (fun y => decide (x.f0 < y.f0))
  | [], _ => rfl
  | y :: r, h => by
    unfold Asc at h
    rw [List.pairwise_cons] at h
    have ih := finR_false (x := x) h.2
    unfold finR
    rw [List.filter_cons, List.filter_cons]
    rcases Int.lt_trichotomy y.f0 x.f0 with hb | hb | hb
    · rw [if_neg (by omega), if_neg (by omega), if_pos (by simpa using hb), if_neg (by simp; omega), ih]; rfl
    · rw [if_pos (by omega), if_pos hb, if_neg (by simp; omega), if_neg (by simp; omega), finR_none h.2]
      rw [filter_none (p := fun y => decide (y.f0 < x.f0)) (fun z hz => by have := h.1 z hz; simp; omega)]
      rfl
    · rw [if_pos (by omega), if_neg (by omega), if_neg (by simp; omega), if_pos (by simpa using hb), finR_none h.2]
      rw [filter_none (p := fun y => decide (y.f0 < x.f0)) (fun z hz => by have := h.1 z hz; simp; omega)]
      rfl
theorem rPut (h : Asc bl) (hl : bl.length ≤ 65536) (x : Bk) : Ev (fun k => cambiumref03_put.f k bl x.f0 x.f1) (putL bl x) := by
  unfold cambiumref03_put.f
  refine Ev.val (rPut_l0 bl x hl bl.length 0 (by omega) [] _ (by simp)) ?_
  rw [List.nil_append, List.drop_zero]
  unfold putL cell
  by_cases hz : x.f1.size = 0
  · rw [show (x.f1.toList == []) = true by rw [toList_nil.2 hz]; rfl, finR_none h, if_pos hz, List.append_nil]
  · rw [show (x.f1.toList == []) = false by
      rw [beq_eq_false_iff_ne, ne_eq, toList_nil]; exact hz, finR_false h, if_neg hz]
-- the calls
theorem rWrite_ok (h : okDev s bl wl) (d : Bool) (f n : Int) (data : ByteArray) : Ev (fun k => cambiumref03_Write.f k s bl wl d f n data) (writeS s bl wl d f n data) := by
  unfold cambiumref03_Write.f writeS
  refine Ev.bind (rCheck_ok h d f) (Ev.ifp rfl (Ev.bindc (rcopy_ok h d f) ?_))
  dsimp only
  refine Ev.ite (fun hd => ?_) (fun hd => ?_)
  · rw [if_pos hd]; exact Ev.const rfl
  · rw [if_neg hd]
    refine Ev.ite (fun hn => ?_) (fun hn => ?_)
    · rw [if_pos hn]; exact Ev.const rfl
    · rw [if_neg hn]
      refine Ev.ite (fun hq => ?_) (fun hq => ?_)
      · rw [if_pos hq]; exact Ev.const rfl
      · rw [if_neg hq]
        refine Ev.ite (fun hw => ?_) (fun hw => ?_)
        · rw [if_pos hw]; exact Ev.const rfl
        · rw [if_neg hw]
          have hd2 : d = false := by cases d <;> simp_all
          subst hd2
          refine Ev.bind (refCut data (by omega)) (Ev.ifp (by omega) (Ev.bindc rfl ?_))
          unfold downOf fuseOf
          by_cases h0 : f = 0
          · subst h0
            exact Ev.ifp rfl (Ev.const rfl)
          · refine Ev.ifn h0 ?_
            have hz : (f == 0) = false := by simpa using h0
            rw [hz]
            by_cases h1 : f > 0
            · refine Ev.ifp h1 (Ev.const ?_)
              rw [if_pos h1]; rfl
            · refine Ev.ifn h1 (Ev.const ?_)
              rw [if_neg h1]; rfl
theorem rPuts (h0 : 0 ≤ s) (h1 : s ≤ 65536) (ws : List Bk) (hw : ∀ x ∈ ws, okB s x) (hl : ws.length ≤ 16384) (d : Bool) (f : Int) : ∀ dd i : Nat, ws.length = i + dd → ∀ b, okBl s b →
    Ev (fun k => cambiumref03_Flush.l0 k ws (ws.length : Int) (i : Int) s b ws d f) (s, putsL b (ws.drop i), [], d, f, 0)
  | 0, i, hi, b, hb => by
    refine Ev.step (fun k => by rw [cambiumref03_Flush.l0]) ?_
    rw [List.drop_of_length_le (by omega)]
    exact Ev.ifn (by omega) (Ev.const rfl)
  | dd + 1, i, hi, b, hb => by
    have hlt : i < ws.length := by omega
    refine Ev.step (fun k => by rw [cambiumref03_Flush.l0]) ?_
    rw [List.drop_eq_getElem_cons hlt, rd_get ws i hlt, succ64 (by omega)]
    refine Ev.ifp (by omega) (Ev.ifp (by omega) (Ev.ifp (by omega) (Ev.bind (rPut hb.1 (okBl_len hb h0 h1) ws[i]) ?_)))
    exact rPuts h0 h1 ws hw hl d f dd (i + 1) (by omega) _ (okBl_put hb (hw _ (List.getElem_mem hlt)))
theorem rFlush_ok (h : okDev s bl wl) (d : Bool) (f : Int) : Ev (fun k => cambiumref03_Flush.f k s bl wl d f) (flushS s bl wl d f) := by
  unfold cambiumref03_Flush.f flushS
  have hb : ∀ (d2 : Bool) (f2 : Int), Ev (fun k => cambiumref03_Flush.j1 k s bl wl d2 f2) (s, putsL bl wl, [], d2, f2, 0) := by
    intro d2 f2
    refine Ev.step (fun k => by rw [cambiumref03_Flush.j1]) ?_
    exact rPuts (by have := h.1; omega) h.2.1 wl h.2.2.2.2 h.2.2.1 d2 f2 wl.length 0 (by omega) bl h.2.2.2.1
  refine Ev.bind (rCheck_ok h d f) (Ev.ifp rfl (Ev.bindc (rcopy_ok h d f) ?_))
  dsimp only
  cases d with
  | true =>
    refine Ev.ifp rfl (Ev.step (fun k => by rw [cambiumref03_Flush.j0]) ?_)
    exact Ev.ifp rfl (Ev.const rfl)
  | false =>
    refine Ev.ifn (by simp) (Ev.step (fun k => by rw [cambiumref03_Flush.j0]) ?_)
    rw [if_neg (by simp)]
    unfold downOf fuseOf
    by_cases h0 : f = 0
    · subst h0
      exact Ev.ifp rfl (Ev.const rfl)
    · have hz : (f == 0) = false := by simpa using h0
      rw [hz]
      refine Ev.ifn (by simp) ?_
      rw [if_neg (by simp)]
      by_cases h1 : f > 0
      · refine Ev.ifp h1 ?_
        rw [if_pos h1]; exact hb _ _
      · refine Ev.ifn h1 ?_
        rw [if_neg h1]; exact hb _ _
theorem foldl_read (n : Int) (l : List Bk) : ∀ (v : ByteArray), l.foldl (fun v x => if x.f0 = n then x.f1 else v) v = (match l.reverse.find? (fun x => x.f0 == n) with | some x => x.f1 | none => v) := by
  induction l with
  | nil => intro v; rfl
  | cons x l ih =>
    intro v
    rw [List.foldl_cons, ih, List.reverse_cons, List.find?_append]
    cases l.reverse.find? (fun x => x.f0 == n) with
    | some y => rfl
    | none =>
      by_cases hx : x.f0 = n <;> simp [hx]
theorem asc_one {l : List Bk} (h : Asc l) (n : Int) : (match l.reverse.find? (fun x => x.f0 == n) with | some x => x.f1 | none => (⟨#[]⟩ : ByteArray)) = has l n := by
  cases hf : l.reverse.find? (fun x => x.f0 == n) with
  | some y =>
    have h1 := List.find?_some hf
    have h2 := List.mem_of_find?_eq_some hf
    rw [List.mem_reverse] at h2
    have h3 : y.f0 = n := by simpa using h1
    rw [← h3, has_mem h h2]
  | none =>
    rw [has_none]
    intro y hy
    rw [List.find?_eq_none] at hf
    simpa using hf y (by simpa using hy)
theorem rRead_l0 (n : Int) (l : List Bk) (hl : l.length ≤ 4398046511104) : ∀ dd i : Nat, l.length = i + dd → ∀ v, Ev (fun k => cambiumref03_Read.l0 k n v l (l.length : Int) (i : Int)) ((l.drop i).foldl (fun v x => if x.f0 = n then x.f1 else v) v, 0)
  | 0, i, hi, v => by
    refine Ev.step (fun k => by rw [cambiumref03_Read.l0]) ?_
    rw [List.drop_of_length_le (by omega)]
    exact Ev.ifn (by omega) (Ev.const rfl)
  | dd + 1, i, hi, v => by
    have hlt : i < l.length := by omega
    refine Ev.step (fun k => by rw [cambiumref03_Read.l0]) ?_
    rw [List.drop_eq_getElem_cons hlt, rd_get l i hlt, succ64 (by omega), List.foldl_cons]
    refine Ev.ifp (by omega) (Ev.ifp (by omega) (Ev.ifp (by omega) (Ev.ite (fun hc => ?_) (fun hc => ?_))))
    · rw [if_pos hc]; exact rRead_l0 n l hl dd (i + 1) (by omega) _
    · rw [if_neg hc]; exact rRead_l0 n l hl dd (i + 1) (by omega) _
theorem rRead_ok (h : okDev s bl wl) (d : Bool) (f n : Int) : Ev (fun k => cambiumref03_Read.f k s bl wl d f n) (readS s bl wl d n) := by
  unfold cambiumref03_Read.f readS
  have h1 := okDev_len h
  have h2 := h.2.2.1
  refine Ev.bind (rCheck_ok h d f) (Ev.ifp rfl (Ev.ite (fun hd => ?_) (fun hd => ?_)))
  · rw [if_pos hd]; exact Ev.const rfl
  · rw [if_neg hd]
    refine Ev.ite (fun hn => ?_) (fun hn => ?_)
    · rw [if_pos hn]; exact Ev.const rfl
    · rw [if_neg hn]
      refine Ev.bindc rfl (Ev.ifp (by simp; omega) (Ev.bindc rfl (Ev.ifp (by simp; omega) (Ev.bindc rfl ?_))))
      rw [List.nil_append]
      refine Ev.val (rRead_l0 n (bl ++ wl) (by simp; omega) (bl ++ wl).length 0 (by omega) _) ?_
      rw [List.drop_zero, List.foldl_append, foldl_read n wl, foldl_read n bl, asc_one h.2.2.2.1.1]
      rfl
theorem rCrash_l0 (h0 : 0 ≤ s) (h1 : s ≤ 65536) (ws : List Bk) (l : List Bool) (hw : ∀ x ∈ ws, okB s x) (hl : ws.length ≤ 16384) (d : Bool) (f : Int) : ∀ dd i : Nat, ws.length = i + dd → ∀ b, okBl s b →
    Ev (fun k => cambiumref03_Crash.l0 k l ws (ws.length : Int) (i : Int) s b ws d f) (s, putsL b (kept (ws.drop i) (l.drop i)), [], false, -1, 0)
  | 0, i, hi, b, hb => by
    refine Ev.step (fun k => by rw [cambiumref03_Crash.l0]) ?_
    rw [show ws.drop i = [] from List.drop_of_length_le (by omega)]
    exact Ev.ifn (by omega) (Ev.const (by unfold kept; rfl))
  | dd + 1, i, hi, b, hb => by
    have hlt : i < ws.length := by omega
    refine Ev.step (fun k => by rw [cambiumref03_Crash.l0]) ?_
    rw [List.drop_eq_getElem_cons hlt, rd_get ws i hlt, succ64 (by omega)]
    refine Ev.ifp (by omega) (Ev.ifp (by omega) (Ev.ifp (by omega) ?_))
    by_cases hk : i < l.length
    · refine Ev.ifp (by omega) ?_
      rw [List.drop_eq_getElem_cons hk]
      have hr : rdOf false l (i : Int) = l[i] := by
        unfold rdOf
        rw [Int.toNat_natCast, List.getD_eq_getElem?_getD, List.getElem?_eq_getElem hk]; rfl
      rw [hr]
      unfold kept
      refine Ev.ite (fun hc => ?_) (fun hc => ?_)
      · rw [if_pos hc]
        exact Ev.bind (rPut hb.1 (okBl_len hb h0 h1) ws[i]) (rCrash_l0 h0 h1 ws l hw hl d f dd (i + 1) (by omega) _ (okBl_put hb (hw _ (List.getElem_mem hlt))))
      · rw [if_neg hc]
        exact rCrash_l0 h0 h1 ws l hw hl d f dd (i + 1) (by omega) _ hb
    · refine Ev.ifn (by omega) (Ev.val (rCrash_l0 h0 h1 ws l hw hl d f dd (i + 1) (by omega) _ hb) ?_)
      rw [show l.drop i = [] from List.drop_of_length_le (by omega), show l.drop (i + 1) = [] from List.drop_of_length_le (by omega)]
      have e : ∀ m : List Bk, kept m [] = [] := fun m => by cases m <;> rfl
      rw [e, e]
theorem rCrash_ok (h : okDev s bl wl) (d : Bool) (f : Int) (l : List Bool) : Ev (fun k => cambiumref03_Crash.f k s bl wl d f l) (crashS s bl wl l) := by
  unfold cambiumref03_Crash.f crashS
  refine Ev.bind (rCheck_ok h d f) (Ev.ifp rfl (Ev.bindc (rcopy_ok h d f) ?_))
  exact rCrash_l0 (by have := h.1; omega) h.2.1 wl l h.2.2.2.2 h.2.2.1 d f wl.length 0 (by omega) bl h.2.2.2.1
theorem rSpoil_ok (h : okDev s bl wl) (d : Bool) (f n : Int) (data : ByteArray) : Ev (fun k => cambiumref03_Spoil.f k s bl wl d f n data) (spoilS s bl wl d f n data) := by
  unfold cambiumref03_Spoil.f spoilS
  refine Ev.bind (rCheck_ok h d f) (Ev.ifp rfl (Ev.bindc (rcopy_ok h d f) ?_))
  dsimp only
  refine Ev.ite (fun hn => ?_) (fun hn => ?_)
  · rw [if_pos hn]; exact Ev.const rfl
  · rw [if_neg hn]
    refine Ev.ite (fun hq => ?_) (fun hq => ?_)
    · rw [if_pos hq]; exact Ev.const rfl
    · rw [if_neg hq]
      exact Ev.bind (refCut data (by omega)) (Ev.bind (rPut h.2.2.2.1.1 (okDev_len h) ⟨n, trimB data⟩) (Ev.const rfl))
theorem rRead_bad (h : ¬ okDev s bl wl) (hi : Inp s bl wl) (hl2 : wl.length ≤ maxLen) (d : Bool) (f n : Int) : Ev (fun k => cambiumref03_Read.f k s bl wl d f n) (⟨#[]⟩, 7) :=
  Ev.bind (rCheck_bad h hi hl2 d f) (Ev.ifn (by decide) (Ev.const rfl))
theorem rWrite_bad (h : ¬ okDev s bl wl) (hi : Inp s bl wl) (hl2 : wl.length ≤ maxLen) (d : Bool) (f n : Int) (data : ByteArray) : Ev (fun k => cambiumref03_Write.f k s bl wl d f n data) badV :=
  Ev.bind (rCheck_bad h hi hl2 d f) (Ev.ifn (by decide) (Ev.const rfl))
theorem rFlush_bad (h : ¬ okDev s bl wl) (hi : Inp s bl wl) (hl2 : wl.length ≤ maxLen) (d : Bool) (f : Int) : Ev (fun k => cambiumref03_Flush.f k s bl wl d f) badV :=
  Ev.bind (rCheck_bad h hi hl2 d f) (Ev.ifn (by decide) (Ev.const rfl))
theorem rCrash_bad (h : ¬ okDev s bl wl) (hi : Inp s bl wl) (hl2 : wl.length ≤ maxLen) (d : Bool) (f : Int) (l : List Bool) : Ev (fun k => cambiumref03_Crash.f k s bl wl d f l) badV :=
  Ev.bind (rCheck_bad h hi hl2 d f) (Ev.ifn (by decide) (Ev.const rfl))
theorem rSpoil_bad (h : ¬ okDev s bl wl) (hi : Inp s bl wl) (hl2 : wl.length ≤ maxLen) (d : Bool) (f n : Int) (data : ByteArray) : Ev (fun k => cambiumref03_Spoil.f k s bl wl d f n data) badV :=
  Ev.bind (rCheck_bad h hi hl2 d f) (Ev.ifn (by decide) (Ev.const rfl))
theorem same_dv (t : Dv) (h : okDev t.1 t.2.1 t.2.2.1) : Ev (fun k => cambiumref03_Same.f k t.1 t.2.1 t.2.2.1 t.2.2.2.1 t.2.2.2.2.1 t.1 t.2.1 t.2.2.1 t.2.2.2.1 t.2.2.2.2.1) true :=
  same_self _ _ _ _ _ (by have := okDev_len h; omega) (by have := h.2.2.1; omega)
theorem same_bad : Ev (fun k => cambiumref03_Same.f k badV.1 badV.2.1 badV.2.2.1 badV.2.2.2.1 badV.2.2.2.2.1 badV.1 badV.2.1 badV.2.2.1 badV.2.2.2.1 badV.2.2.2.2.1) true :=
  same_self _ _ _ _ _ (by decide) (by decide)
end Go.Proofs.YtcphflfjhkeooaaDoor.Z
end

section
/- DevWrites, over numbers and lists: the law's function answers true. -/
namespace Go.Proofs.YtcphflfjhkeooaaDoor.Pure
open Go.RowKit Go.Proofs.YtcphflfjhkeooaaDoor Go.Proofs.YtcphflfjhkeooaaDoor.Z Go.Proofs.YtcphflfjhkeooaaDoorW.PrintWords
set_option linter.unusedVariables false
theorem DevWrites : ∀ (a0_0 : Int) (l0_1 : List (S39)) (l0_2 : List (S39)) (a0_3 : Bool) (a0_4 : Int) (a1 : Int) (a2 : ByteArray), (Lit.int .u32 a0_0).wf = true → l0_1.length ≤ maxLen → (∀ x ∈ l0_1, Z.G39 x) → l0_1.length * 24 ≤ 140737488351232 → l0_2.length ≤ maxLen → (∀ x ∈ l0_2, Z.G39 x) → l0_2.length * 24 ≤ 140737488351232 → (Lit.int .i64 a0_4).wf = true → (Lit.int .u32 a1).wf = true → a2.size ≤ 140737488351232 → ∃ k, Z.cambiumlaw03_DevWrites.f k a0_0 l0_1 l0_2 a0_3 a0_4 a1 a2 = some true := by
  intro s bl wl d f n data hs hl1 hg1 hz1 hl2 hg2 hz2 hf hn hd
  refine Ev.rounds (g := fun r => Z.cambiumlaw03_DevWrites.f r s bl wl d f n data) ?_
  have hn := (wf32 hn).1
  have hi : Inp s bl wl := inp hg1 hg2 hl1
  unfold cambiumlaw03_DevWrites.f
  have same : Ev (fun k => cambiumref03_Same.f k s bl wl d f s bl wl d f) true := same_self _ _ _ _ _ (by omega) (by omega)
  refine Ev.bindc (copy_f d f (by omega) (by omega)) ?_
  dsimp only
  by_cases ok : okDev s bl wl
  · refine Ev.bind (write_ok ok d f n data) (Ev.bind (rWrite_ok ok d f n data) (Ev.bind (flush_ok ok d f) (Ev.bind (rFlush_ok ok d f) (Ev.bind (read_ok ok d f n) (Ev.bind (rRead_ok ok d f n) (Ev.bind lives_f (Ev.ifp rfl ?_)))))))
    refine Ev.bind (same_dv _ (okDev_write ok hn d f data)) (Ev.ifp rfl (Ev.ifp rfl (Ev.bind (same_dv _ (okDev_flush ok d f)) (Ev.ifp rfl (Ev.ifp rfl (Ev.ifp rfl (Ev.ifp rfl ?_)))))))
    exact Ev.bind (dCheck_ok ok d f) (Ev.bind (rCheck_ok ok d f) (Ev.ifp rfl (Ev.bind same (Ev.const rfl))))
  · refine Ev.bind (write_bad ok hi d f n data) (Ev.bind (rWrite_bad ok hi hl2 d f n data) (Ev.bind (flush_bad ok hi d f) (Ev.bind (rFlush_bad ok hi hl2 d f) (Ev.bind (read_bad ok hi d f n) (Ev.bind (rRead_bad ok hi hl2 d f n) (Ev.bind lives_f (Ev.ifp rfl ?_)))))))
    refine Ev.bind same_bad (Ev.ifp rfl (Ev.ifp rfl (Ev.bind same_bad (Ev.ifp rfl (Ev.ifp rfl (Ev.ifp rfl (Ev.ifp rfl ?_)))))))
    exact Ev.bind (dCheck_bad ok d f hi.n1 hi.n2 hi.l1) (Ev.bind (rCheck_bad ok hi hl2 d f) (Ev.ifp rfl (Ev.bind same (Ev.const rfl))))
end Go.Proofs.YtcphflfjhkeooaaDoor.Pure
end

section
/- cambium/cambiumlaw03.DevWrites: at every input the law's function returns true, and each argument reads afterwards as before. Conditions: none beyond the row's own. Printed by a program of this session (mp.py) over the pure statement in YtcphflfjhkeooaaDoorPureDevWrites. -/
namespace Go.Proofs.YtcphflfjhkeooaaDoor.devWrites
open Go.ChangeShapes Go.WideShapes Go.ChangeAt Go.RowKit
open Go.ChangeMaps (open_string shut_string)
set_option linter.unusedVariables false
set_option linter.unusedSimpArgs false
theorem own : ownKnob Tryd.prog.godebug = none := by kernel_rfl
theorem laidOut : laidOutB Tryd.prog = true := by kernel_rfl
theorem lstOf5 {α : Type} (l : List α) (h : l.length = 5) : ∃ z0 z1 z2 z3 z4, l = [z0, z1, z2, z3, z4] := by
  match l, h with
  | [z0, z1, z2, z3, z4], _ => exact ⟨z0, z1, z2, z3, z4, rfl⟩
theorem arrOf5 {α : Type} (a : Array α) (h : a.toList.length = 5) : ∃ z0 z1 z2 z3 z4, a = #[z0, z1, z2, z3, z4] := by
  obtain ⟨l⟩ := a
  obtain ⟨z0, z1, z2, z3, z4, rfl⟩ := lstOf5 l h
  exact ⟨z0, z1, z2, z3, z4, rfl⟩
def lay0 : Obj → Obj
  | .cells _ t frozen => .cells (((Pinned.numbers IntKind.u8 Pinned.utf8FirstZ : List (DataW Unit)).map (fun x => match x with | .lit (.int k v) => Value.int k v | _ => .int .u8 0)).toArray) t frozen
  | o => o
def lay1 : Obj → Obj
  | .cells _ t frozen => .cells #[.int .u8 128, .int .u8 191, .int .u8 160, .int .u8 191, .int .u8 128, .int .u8 159, .int .u8 144, .int .u8 191, .int .u8 128, .int .u8 143, .int .u8 0, .int .u8 0, .int .u8 0, .int .u8 0, .int .u8 0, .int .u8 0, .int .u8 0, .int .u8 0, .int .u8 0, .int .u8 0, .int .u8 0, .int .u8 0, .int .u8 0, .int .u8 0, .int .u8 0, .int .u8 0, .int .u8 0, .int .u8 0, .int .u8 0, .int .u8 0, .int .u8 0, .int .u8 0] t frozen
  | o => o
noncomputable def laidWorld (os : Os) : World :=
  { World.holding Tryd.prog os ⟨#[], #[], []⟩ with heap := ((World.holding Tryd.prog os ⟨#[], #[], []⟩).heap.modify 0 lay0).modify 1 lay1 }
theorem laid_met (os : Os) : laidMet Tryd.prog Rows.devWritesRow.laid ((laidWorld os).forCall (fun _ _ => 0) ⟨#[], #[.agg #[.int .u32 0, .slice none 0 0, .slice none 0 0, .bool false, .int .i64 0], .int .u32 0, .string ByteArray.empty], []⟩).memory :=
  laidMet_of_run' 8 (by kernel_rfl) (by kernel_rfl)
theorem reads (os : Os) {H : Type} (enc : TypeId × Value → H) : ∃ places, DataW.whole enc Tryd.prog ((laidWorld os).forCall (fun _ _ => 0) ⟨#[], #[.agg #[.int .u32 0, .slice none 0 0, .slice none 0 0, .bool false, .int .i64 0], .int .u32 0, .string ByteArray.empty], []⟩).memory Tryd.f3.params.toList Rows.devWritesSpec.vars false (#[.agg #[.int .u32 0, .slice none 0 0, .slice none 0 0, .bool false, .int .i64 0], .int .u32 0, .string ByteArray.empty] : Array Value).toList 8 = some ([.agg [.lit (.int .u32 0), .nil, .nil, .lit (.bool false), .lit (.int .i64 0)], .lit (.int .u32 0), .lit (.string [])], [], places) :=
  ⟨[], by kernel_rfl⟩
set_option maxHeartbeats 1000000 in
set_option maxRecDepth 100000 in
theorem lifted (os : Os) (started : os.Started) (H : Type) (enc : TypeId × Value → H) (F : Stop.Interp) :
    ReturnsInHanded {} Tryd.checked os 3 .any ((OpenSpec.ofChange Rows.devWritesSpec).preRow enc Tryd.prog Tryd.f3 Rows.devWritesRow.domain false Rows.devWritesRow.laid) (((OpenSpec.ofChange Rows.devWritesSpec).at F).post enc Tryd.prog Tryd.f3 false true false false) := by
  obtain ⟨places, hx⟩ := reads os enc
  refine returnsInHanded_of_row (C := Tryd.checked) (s := OpenSpec.ofChange Rows.devWritesSpec) own started (by kernel_rfl) Tryd.func3
    (witness_row_at (enc := enc) (C := Tryd.checked) false (laidWorld os) #[.agg #[.int .u32 0, .slice none 0 0, .slice none 0 0, .bool false, .int .i64 0], .int .u32 0, .string ByteArray.empty] rfl (by kernel_rfl) (by kernel_rfl) (by kernel_rfl)
      (OpenSpec.preRow_of_cond 8 hx (by kernel_rfl) (fun k hk => by cases hk) (by kernel_rfl) (laid_met os))) ?_
  intro W base args ds gs before hval0 hW hcn0_ hcnd hwz_ _ _ _
  have hsz : (DataW.weightsEach Tryd.prog (Tryd.f3.params.toList ++ Rows.devWritesSpec.plain.varTypes Tryd.prog) (ds ++ gs)).all (· ≤ reachBytes) = true := hwz_
  have hval : ∀ (j : Nat) t v, Tryd.f3.params[j]? = some t → args[j]? = some v → Value.okWide Tryd.prog W .any base t v := hval0
  have hW' := hW
  obtain ⟨p, q, hA0, hV, rfl, hfz, hnd⟩ := hW
  have hA : DataW.TrodAll enc Tryd.prog W 0 (fun _ => true) true Tryd.f3.params.toList args.toList ds p := hA0
  rw [Tryd.params3] at hA hval hsz
  obtain ⟨v0, vs0, d0, ds0, p0, q0, hargs, rfl, rfl, h0, r0⟩ := trodAll_cons hA
  obtain ⟨v1, vs1, d1, ds1, p1, q1, rfl, rfl, rfl, h1, r1⟩ := trodAll_cons r0
  obtain ⟨v2, vs2, d2, ds2, p2, q2, rfl, rfl, rfl, h2, r2⟩ := trodAll_cons r1
  obtain ⟨rfl, rfl, rfl⟩ := trodAll_nil r2
  obtain rfl : args = #[v0, v1, v2] := by cases args; simp_all
  obtain ⟨rfl, rfl⟩ := trodVars_none hV
  have k0 := h0
  have lt0 : ∀ x ∈ p0, x.block < W.heap.size := by obtain ⟨m, hm⟩ := k0; exact DataW.trod_lt m _ _ _ hm
  obtain ⟨cs0, rfl, hsz_0⟩ := okWide_struct Tryd.underlying25 (hval 0 25 v0 rfl rfl)
  obtain ⟨fuel0, hf0⟩ := h0
  obtain ⟨ys0, n0, hl0, hy0, hx0, hfs0⟩ := Z.flat_fields Tryd.underlying25 (by kernel_rfl) (by kernel_rfl) hf0
  obtain ⟨q0_0, q0_1, q0_2, q0_3, q0_4, rfl⟩ := arrOf5 cs0 hl0
  obtain ⟨r0_0, r0_1, r0_2, r0_3, r0_4, rfl⟩ := lstOf5 ys0 hy0
  obtain ⟨a0_0, hk0_0, hG0_0, hB0_0⟩ := (Z.Opens.int Tryd.underlying22 (by kernel_rfl)).2 (hfs0 0 _ q0_0 rfl rfl)
  have hk0_0' : [q0_0] = [.int .u32 a0_0] := hk0_0
  simp only [List.cons.injEq, and_true] at hk0_0'
  subst hk0_0'
  clear hk0_0
  obtain ⟨A0_1, c0_1, l0_1, hcs0_1, hlc0_1, hcm0_1, hC0_1, hG0_1, hB0_1, hx0_1⟩ := Z.Opens.row Tryd.underlying23 Z.opens39 (of_decide_eq_true (by kernel_rfl)) (hfs0 1 _ q0_1 rfl rfl)
  simp only [List.cons.injEq, and_true] at hcs0_1
  subst hcs0_1
  have hlm0_1 : l0_1.length ≤ maxLen := Nat.le_trans hlc0_1 hcm0_1
  have hsz0_1 : l0_1.length * 24 ≤ 140737488351232 := Z.sized_field hsz (j := 0) (t := 25) (i := 1) (u := 23) rfl rfl hx0 Tryd.underlying25 rfl rfl Tryd.underlying23 (by kernel_rfl) hx0_1
  obtain ⟨A0_2, c0_2, l0_2, hcs0_2, hlc0_2, hcm0_2, hC0_2, hG0_2, hB0_2, hx0_2⟩ := Z.Opens.row Tryd.underlying23 Z.opens39 (of_decide_eq_true (by kernel_rfl)) (hfs0 2 _ q0_2 rfl rfl)
  simp only [List.cons.injEq, and_true] at hcs0_2
  subst hcs0_2
  have hlm0_2 : l0_2.length ≤ maxLen := Nat.le_trans hlc0_2 hcm0_2
  have hsz0_2 : l0_2.length * 24 ≤ 140737488351232 := Z.sized_field hsz (j := 0) (t := 25) (i := 2) (u := 23) rfl rfl hx0 Tryd.underlying25 rfl rfl Tryd.underlying23 (by kernel_rfl) hx0_2
  obtain ⟨a0_3, hk0_3, hG0_3, hB0_3⟩ := (Z.Opens.bool Tryd.underlying4 (by kernel_rfl)).2 (hfs0 3 _ q0_3 rfl rfl)
  have hk0_3' : [q0_3] = [.bool a0_3] := hk0_3
  simp only [List.cons.injEq, and_true] at hk0_3'
  subst hk0_3'
  clear hk0_3
  obtain ⟨a0_4, hk0_4, hG0_4, hB0_4⟩ := (Z.Opens.int Tryd.underlying3 (by kernel_rfl)).2 (hfs0 4 _ q0_4 rfl rfl)
  have hk0_4' : [q0_4] = [.int .i64 a0_4] := hk0_4
  simp only [List.cons.injEq, and_true] at hk0_4'
  subst hk0_4'
  clear hk0_4
  have k1 := h1
  have lt1 : ∀ x ∈ p1, x.block < W.heap.size := by obtain ⟨m, hm⟩ := k1; exact DataW.trod_lt m _ _ _ hm
  obtain ⟨a1, rfl, rfl, rfl, w1⟩ := open_int Tryd.underlying22 (hval 1 22 v1 rfl rfl) h1
  have k2 := h2
  have lt2 : ∀ x ∈ p2, x.block < W.heap.size := by obtain ⟨m, hm⟩ := k2; exact DataW.trod_lt m _ _ _ hm
  obtain ⟨a2, rfl, rfl, rfl, y2⟩ := open_string Tryd.underlying9 (hval 2 9 v2 rfl rfl) h2
  have w2 : a2.size ≤ 140737488351232 := by
    have z := sized_string hsz (j := 2) (t := 9) rfl rfl
    rw [Array.length_toList] at z
    exact z
  have hP := Pure.DevWrites a0_0 l0_1 l0_2 a0_3 a0_4 a1 a2 hG0_0 hlm0_1 hG0_1 hsz0_1 hlm0_2 hG0_2 hsz0_2 hG0_4 w1 w2
  obtain ⟨k, hk⟩ := hP
  refine (Z.cambiumlaw03_DevWrites.calls k a0_0 _ _ l0_1 _ _ l0_2 a0_3 a0_4 a1 a2 true W hC0_1 hlc0_1 hC0_2 hlc0_2 hk).mono fun e W' ⟨he, bel0⟩ => ?_
  have bel : Below W.heap.size W W' := bel0
  subst he
  exact ⟨_, rfl, _, _, _, [], _, [], hW', trodAll_mk1 (shut_bool Tryd.underlying4 _), (trodAll_cons_mk (Below.trod laidOut (by kernel_rfl) (of_decide_eq_true (by kernel_rfl)) k0 bel lt0) (trodAll_cons_mk (Below.trod laidOut (by kernel_rfl) (of_decide_eq_true (by kernel_rfl)) k1 bel lt1) (trodAll_cons_mk (Below.trod laidOut (by kernel_rfl) (of_decide_eq_true (by kernel_rfl)) k2 bel lt2) trodAll_mk0))), rfl, bel.frame _, fun h => by cases h⟩
theorem over : Rows.DevWritesSaid :=
  OpenClaim.holds_of_cond 3 Tryd.f3 rfl rfl rfl rfl rfl rfl rfl ⟨rfl, rfl, rfl, rfl, rfl⟩ rfl rfl rfl rfl rfl (by kernel_rfl) Tryd.func3 (by kernel_rfl)
    (of_decide_eq_true (by kernel_rfl)) (by unfold Func.isWrapper; first | (rw [if_pos (by decide +kernel)]; kernel_rfl) | (rw [if_neg (by decide +kernel)]; exact ⟨rfl, rfl⟩))
    (fun os started H enc _ F => by rw [OpenClaim.pre_eq_preRow]; exact lifted os started H enc F)
theorem plain (f : FuncId) (fn : Func) (hf : Tryd.pinned.checked.prog.funcNamed "cambium/cambiumlaw03.DevWrites" = some f) (hfn : Tryd.pinned.checked.prog.funcs[f]? = some fn) :
    false = Tryd.pinned.checked.prog.looks [] ∧ ∀ (j : Nat) t, fn.params[j]? = some t → Tryd.pinned.checked.prog.wantsStandIn t = false := by
  obtain rfl : f = 3 := Option.some.inj ((show Tryd.prog.funcNamed "cambium/cambiumlaw03.DevWrites" = some 3 by kernel_rfl).symm.trans hf) |>.symm
  obtain rfl : fn = Tryd.f3 := (Option.some.inj (Tryd.func3.symm.trans hfn)).symm
  refine ⟨by kernel_rfl, fun j t ht => ?_⟩
  rw [Tryd.params3] at ht
  have hm := Array.mem_of_getElem? ht
  simp only [List.mem_toArray, List.mem_cons, List.not_mem_nil, or_false] at hm
  rcases hm with rfl | rfl | rfl <;> exact (show Tryd.prog.wantsStandIn _ = false by kernel_rfl)
theorem card : Rows.DevWritesCardSaid :=
  Claim7.holds_tied_plain_at .later [] _ _ _ _ over (fun _ h => by cases h) (by kernel_rfl) (fun _ h => by cases h) devWrites_row_tie rfl ⟨rfl, rfl⟩ (by kernel_rfl) rfl plain (by kernel_rfl)
end Go.Proofs.YtcphflfjhkeooaaDoor.devWrites
namespace Go.Proofs.YtcphflfjhkeooaaDoor
theorem devWrites_holds : Rows.DevWritesCardSaid := devWrites.card
#print axioms devWrites_holds
end Go.Proofs.YtcphflfjhkeooaaDoor
end
