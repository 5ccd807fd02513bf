/- 'lives' of the statements on paths is true. -/
import Derived.Test.YtjemaajliodmhaaHPSpec
import Derived.Test.YtjemaajliodmhaaZf13
namespace Go.Proofs.Ytjemaajliodmhaa.Z
open Go.RowKit Go.Proofs.YtjemaajliodmhaaW.PrintWords Go.Proofs.YtjemaajliodmhaaW.PrintLast Go.Proofs.Ytjemaajliodmhaa.PM
theorem lives_f : Ev (fun k => cambiumlaw11_lives.f k) true := by
  unfold cambiumlaw11_lives.f
  have s1 : Ev (fun k => path_Split.f k ⟨#[47, 97, 47, 98]⟩) ([⟨#[97]⟩, ⟨#[98]⟩], 0) := Ev.val (split_f _) rfl
  have s2 : Ev (fun k => path_Split.f k ⟨#[47, 97, 47]⟩) ([], 10) := Ev.val (split_f _) rfl
  have s3 : Ev (fun k => path_Split.f k ⟨#[47]⟩) ([], 0) := Ev.val (split_f _) rfl
  have s4 : Ev (fun k => path_Join.f k [⟨#[97]⟩, ⟨#[98]⟩]) (⟨#[47, 97, 47, 98]⟩, 0) := Ev.val (join_f _ (by decide)) rfl
  have s5 : Ev (fun k => path_Last.f k ⟨#[47, 97, 47, 98]⟩) ([⟨#[97]⟩], ⟨#[98]⟩, 0) := Ev.val (last_f _) rfl
  have s6 : path_Name.f ⟨#[97]⟩ = some true := name_f _
  have s7 : path_Name.f ⟨#[46, 46]⟩ = some false := name_f _
  refine Ev.bind s1 (Ev.bind s2 (Ev.bind s3 (Ev.bind s4 (Ev.bind s5 (Ev.bindc s6 (Ev.ifp rfl (Ev.bindc s7 (Ev.ifn (by decide) ?_))))))))
  refine Ev.ifp rfl (Ev.ifp (by decide) (Ev.ifp (by rw [ByteArray.toList_eq]; rfl) (Ev.ifp rfl (Ev.ifp rfl (Ev.ifp rfl (Ev.ifp rfl (Ev.ifp (by rw [ByteArray.toList_eq]) (Ev.ifp rfl (Ev.ifp rfl (Ev.ifp (by rw [ByteArray.toList_eq]) (Ev.ifp rfl ?_)))))))))))
  exact Ev.bind (Ev.val (under_f _ _ (by decide)) (by rfl : underB [⟨#[97]⟩] [⟨#[97]⟩, ⟨#[98]⟩] = true)) (Ev.const rfl)
end Go.Proofs.Ytjemaajliodmhaa.Z
