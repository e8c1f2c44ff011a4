/- How any processor may stand, and who becomes current, is as the document's reference tells: no condition. -/
import Derived.Test.YtdmfoeokfmgglaaPSliceMayx
import Derived.Test.YtdmfoeokfmgglaaSl
set_option linter.unusedVariables false
set_option linter.unusedSimpArgs false
namespace Go.Proofs.Ytdmfoeokfmgglaa.Pure
open Go.RowKit Go.Proofs.Ytdmfoeokfmgglaa.PSliceMay Go.Proofs.YtdmfoeokfmgglaaW.PrintWords Go.Proofs.YtdmfoeokfmgglaaW.PrintLast Go.Proofs.Ytdmfoeokfmgglaa.Sl

theorem awake_eq (k : Nat) : rotalaw22_awake.f (k + 1) = some true := by rfl

theorem may_same (k : Nat) (h : Bool) (a1 a2 a3 s : Int) (b : Bool) (c q : Int) (c0 : 0 ≤ c) : ∃ r, slice_May.f h a1 a2 a3 s b c q = some r ∧ rotaref22_May.f (k + 1) h a1 a2 a3 s b c q = some r := by
  have e : rotaref22_quanta.f q = slice_quantum.f q := rfl
  have d : ∃ r, slice_quantum.f q = some r := by unfold slice_quantum.f; split <;> exact ⟨_, rfl⟩
  obtain ⟨r, hr⟩ := d
  unfold slice_May.f rotaref22_May.f
  rw [e, hr]
  simp only [Option.bind_some]
  cases r
  · simp [rotaref22_May.j0]
  · simp only [if_true]
    by_cases h1 : s > q
    · rw [if_pos h1, if_pos h1]; simp [rotaref22_May.j0]
    rw [if_neg h1, if_neg h1]
    by_cases h2 : c > 8
    · have z : decide (c > 8) = true := by simp; omega
      rw [if_pos h2, z]; simp [rotaref22_May.j0]
    have z : decide (c > 8) = false := by simp; omega
    rw [if_neg h2, z, rotaref22_May.j0]
    simp only [Bool.false_eq_true, if_false]
    by_cases h3 : c > 0
    · have z1 : c ≠ 0 := by omega
      have z2 : (c == 0) = false := by simp; omega
      rw [if_pos h3]
      cases b
      · cases h
        · simp [z1]
        · simp [z1]
      · cases h
        · simp [z1]
        · simp [z1]
    · obtain rfl : c = 0 := by omega
      rw [if_neg h3]
      cases h
      · simp only [Bool.false_eq_true, if_false]
        cases b
        · split <;> exact ⟨_, rfl, rfl⟩
        · split <;> exact ⟨_, rfl, rfl⟩
      · simp
theorem SliceMay : rotalaw22_SliceMay.Pure := by
  intro h a1 a2 a3 s b c b1 b2 b3 q w1 w2 w3 ws wc v1 v2 v3 wq
  have c0 : 0 ≤ c := (u64b wc).1
  refine ⟨4, ?_⟩
  unfold rotalaw22_SliceMay.f
  have e : ∀ i, rotaref22_Dispatch.f h a1 a2 a3 s b c b1 b2 b3 i q = slice_Dispatch.f h a1 a2 a3 s b c b1 b2 b3 i q := fun _ => rfl
  have d : ∀ i, ∃ r, slice_Dispatch.f h a1 a2 a3 s b c b1 b2 b3 i q = some r := by
    intro i
    unfold slice_Dispatch.f
    repeat' split
    all_goals exact ⟨_, rfl⟩
  have w1' : wrap64 (0 + 1) = 1 := by unfold wrap64; omega
  have w2' : wrap64 (1 + 1) = 2 := by unfold wrap64; omega
  obtain ⟨r0, h0⟩ := d ((0 : Int) == 1)
  obtain ⟨r1, h1⟩ := d ((1 : Int) == 1)
  obtain ⟨m, m1, m2⟩ := may_same 0 h a1 a2 a3 s b c q c0
  rw [rotalaw22_SliceMay.l0, if_pos (by decide), e, h0]
  simp only [Option.bind_some]
  rw [if_neg (by simp), if_pos trivial, w1', rotalaw22_SliceMay.l0, if_pos (by decide), e, h1]
  simp only [Option.bind_some]
  rw [if_neg (by simp), if_pos trivial, w2', rotalaw22_SliceMay.l0, if_neg (by decide), m1, m2]
  simp [awake_eq 0]
end Go.Proofs.Ytdmfoeokfmgglaa.Pure
