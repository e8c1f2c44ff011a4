/- What any processor does next is as the document's reference tells: no condition. -/
import Derived.Test.YtdmfoeokfmgglaaPSliceDecidesx
import Derived.Test.YtdmfoeokfmgglaaSl
set_option linter.unusedVariables false
set_option linter.unusedSimpArgs false
namespace Go.Proofs.Ytdmfoeokfmgglaa.Pure
open Go.RowKit Go.Proofs.Ytdmfoeokfmgglaa.PSliceDecides Go.Proofs.YtdmfoeokfmgglaaW.PrintWords Go.Proofs.YtdmfoeokfmgglaaW.PrintLast Go.Proofs.Ytdmfoeokfmgglaa.Sl

theorem awake_eq (k : Nat) : rotalaw22_awake.f (k + 1) = some true := by rfl

theorem SliceDecides : rotalaw22_SliceDecides.Pure := by
  intro h a1 a2 a3 s b c x l w1 w2 w3 ws wc wx wl
  refine ⟨1, ?_⟩
  unfold rotalaw22_SliceDecides.f
  have e : rotaref22_Decide.f h a1 a2 a3 s b c x l = slice_Decide.f h a1 a2 a3 s b c x l := rfl
  have d : ∃ r, slice_Decide.f h a1 a2 a3 s b c x l = some r := by
    unfold slice_Decide.f
    repeat' split
    all_goals exact ⟨_, rfl⟩
  obtain ⟨r, hr⟩ := d
  rw [e, hr]
  simp [awake_eq 0]
end Go.Proofs.Ytdmfoeokfmgglaa.Pure
