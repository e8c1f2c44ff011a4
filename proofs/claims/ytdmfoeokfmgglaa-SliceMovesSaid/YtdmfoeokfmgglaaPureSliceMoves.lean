/- An instruction begun, a tick, one that leaves, a window's end, of any processor, are as the document's reference tells: no condition. -/
import Derived.Test.YtdmfoeokfmgglaaPSliceMovesx
import Derived.Test.YtdmfoeokfmgglaaSl
set_option linter.unusedVariables false
set_option linter.unusedSimpArgs false
namespace Go.Proofs.Ytdmfoeokfmgglaa.Pure
open Go.RowKit Go.Proofs.Ytdmfoeokfmgglaa.PSliceMoves Go.Proofs.YtdmfoeokfmgglaaW.PrintWords Go.Proofs.YtdmfoeokfmgglaaW.PrintLast Go.Proofs.Ytdmfoeokfmgglaa.Sl

theorem awake_eq (k : Nat) : rotalaw22_awake.f (k + 1) = some true := by rfl

theorem begin_same (k : Nat) (h : Bool) (a1 a2 a3 s : Int) (b : Bool) (c x : Int) : ∃ r, slice_Begin.f (k + 1) h a1 a2 a3 s b c x = some r ∧ rotaref22_Begin.f h a1 a2 a3 s b c x = some r := by
  unfold slice_Begin.f rotaref22_Begin.f rotaref22_costs.f
  by_cases h1 : x < 1
  · rw [if_pos h1, if_neg (by omega), slice_Begin.j0]
    exact ⟨_, by simp; rfl, by simp⟩
  rw [if_neg h1, if_pos (by omega)]
  by_cases h2 : x > 8
  · have z : decide (x > 8) = true := by simp; omega
    have z' : decide (x ≤ 8) = false := by simp; omega
    rw [z, z', slice_Begin.j0]
    exact ⟨_, by simp; rfl, by simp⟩
  · have z : decide (x > 8) = false := by simp; omega
    have z' : decide (x ≤ 8) = true := by simp; omega
    rw [z, z', slice_Begin.j0]
    simp only [Option.bind_some, Bool.false_eq_true, if_false, if_true]
    repeat' split
    all_goals exact ⟨_, rfl, rfl⟩
theorem tick_same (h : Bool) (a1 a2 a3 s : Int) (b : Bool) (c : Int) (s0 : 0 ≤ s) (s1 : s < 18446744073709551616) : ∃ r, slice_Tick.f h a1 a2 a3 s b c = some r ∧ rotaref22_Tick.f h a1 a2 a3 s b c = some r := by
  unfold slice_Tick.f rotaref22_Tick.f
  by_cases h1 : c = 0
  · rw [if_pos h1, if_pos h1]; exact ⟨_, rfl, rfl⟩
  rw [if_neg h1, if_neg h1]
  by_cases h2 : s > 0
  · have e : s - mn s 1 = s - 1 := by unfold mn; omega
    rw [if_pos h2, e]; exact ⟨_, rfl, rfl⟩
  · obtain rfl : s = 0 := by omega
    rw [if_neg h2]
    have e : IntKind.u64.wrap (0 - mn 0 1) = 0 := by decide
    rw [e]; exact ⟨_, rfl, rfl⟩
theorem SliceMoves : rotalaw22_SliceMoves.Pure := by
  intro h a1 a2 a3 s b c x w1 w2 w3 ws wc wx
  obtain ⟨s0, s1⟩ := u64b ws
  refine ⟨3, ?_⟩
  obtain ⟨r, r1, r2⟩ := begin_same 2 h a1 a2 a3 s b c x
  obtain ⟨t, t1, t2⟩ := tick_same h a1 a2 a3 s b c s0 s1
  unfold rotalaw22_SliceMoves.f
  rw [r1, r2, t1, t2]
  simp only [Option.bind_some]
  rw [if_neg (by simp), if_pos trivial, if_neg (by simp), if_neg (by simp)]
  have z : (t.2.2.2.2.2.2.2.2 != t.2.2.2.2.2.2.2.2) = false := by simp
  have l : rotaref22_Leave.f h a1 a2 a3 s b c = slice_Leave.f h a1 a2 a3 s b c := rfl
  have cl : rotaref22_Close.f h a1 a2 a3 s b c = slice_Close.f h a1 a2 a3 s b c := rfl
  have dl : ∃ r, slice_Leave.f h a1 a2 a3 s b c = some r := by
    unfold slice_Leave.f
    repeat' split
    all_goals exact ⟨_, rfl⟩
  have dc : ∃ r, slice_Close.f h a1 a2 a3 s b c = some r := by
    unfold slice_Close.f
    repeat' split
    all_goals exact ⟨_, rfl⟩
  obtain ⟨l', hl⟩ := dl
  obtain ⟨c', hc⟩ := dc
  rw [z, rotalaw22_SliceMoves.j0, if_neg (by decide), l, cl, hl, hc]
  simp [awake_eq 1]
end Go.Proofs.Ytdmfoeokfmgglaa.Pure
