import Derived.Test.YtjemaajliodmhaaHPSpec
import Derived.Test.YtjemaajliodmhaaHPLives
import Derived.Test.YtjemaajliodmhaaZf3
import Derived.Test.YtjemaajliodmhaaHKinds
namespace Go.Proofs.Ytjemaajliodmhaa.Pure
open Go.RowKit Go.Proofs.Ytjemaajliodmhaa Go.Proofs.Ytjemaajliodmhaa.Z Go.Proofs.YtjemaajliodmhaaW.PrintWords Go.Proofs.Ytjemaajliodmhaa.PM
theorem pathSpec_len (p : List UInt8) : (pathSpec p).1.length ≤ 257 := by
  rcases path_cases p with h1 | ⟨rfl, h1⟩ | ⟨rest, rfl, hr, hl, ha, h1⟩
  · rw [h1.2]; simp
  · rw [h1]; simp
  · rw [h1]
    have h2 := joinL_length (splitL rest)
    rw [joinL_splitL] at h2
    simp only at *
    omega
theorem PathSplits : ∀ (a0 : ByteArray), a0.size ≤ 140737488351232 → ∃ k, Z.cambiumlaw11_PathSplits.f k a0 = some true := by
  intro p hp
  refine Ev.rounds (g := fun k => Z.cambiumlaw11_PathSplits.f k p) ?_
  unfold cambiumlaw11_PathSplits.f
  have hl : (baP (pathSpec p.data.toList)).1.length ≤ 257 := by simpa [baP] using pathSpec_len p.data.toList
  have hl2 : (baL (lastSpec p.data.toList)).1.length ≤ 257 := by
    have := pathSpec_len p.data.toList
    simp only [baL, List.length_map]
    unfold lastSpec
    split
    · split
      · simp
      · simp only [List.length_take]; omega
    · simp
  refine Ev.bind (split_f p) (Ev.bind (refSplit_f p) (Ev.bind (last_f p) (Ev.bind (refLast_f p) (Ev.bind lives_f (Ev.ifp rfl ?_)))))
  refine Ev.bind (same_f _ _ (by omega) (by omega)) (Ev.ifp (by simp) (Ev.ifp rfl (Ev.bind (same_f _ _ (by omega) (by omega)) (Ev.ifp (by simp) (Ev.ifp rfl (Ev.ifp rfl ?_))))))
  exact Ev.bindc (name_f p) (Ev.bind (refName p (by omega)) (Ev.const (by simp)))
end Go.Proofs.Ytjemaajliodmhaa.Pure
