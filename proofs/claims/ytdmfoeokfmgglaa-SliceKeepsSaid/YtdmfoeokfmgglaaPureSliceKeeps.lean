/- Behind any steps a processor may stand as it stands: no condition. -/
import Derived.Test.YtdmfoeokfmgglaaPSliceKeepsx
import Derived.Test.YtdmfoeokfmgglaaSl
set_option linter.unusedVariables false
set_option linter.unusedSimpArgs false
namespace Go.Proofs.Ytdmfoeokfmgglaa.Pure
open Go.RowKit Go.Proofs.Ytdmfoeokfmgglaa.PSliceKeeps Go.Proofs.YtdmfoeokfmgglaaW.PrintWords Go.Proofs.YtdmfoeokfmgglaaW.PrintLast Go.Proofs.Ytdmfoeokfmgglaa.Sl

theorem awake_eq (k : Nat) : rotalaw22_awake.f (k + 1) = some true := by rfl

/-- The one pure statement of the law. -/
def KeepsPure : Prop := ∀ (q : Int) (l : List S45), l.length ≤ 9223372036854775807 → ∃ k, rotalaw22_SliceKeeps.f k q l = some true
/-- How a processor may stand. -/
structure Stand (q : Int) (h : Bool) (a1 a2 a3 s : Int) (b : Bool) (c : Int) : Prop where
  s0 : 0 ≤ s
  s1 : s ≤ q
  c0 : 0 ≤ c
  c1 : c ≤ 8
  no : h = false → a1 = 0 ∧ a2 = 0 ∧ a3 = 0 ∧ b = false ∧ c = 0
  yes : 0 < c → b = true
theorem stand_may {q : Int} {h : Bool} {a1 a2 a3 s : Int} {b : Bool} {c : Int} (o : Stand q h a1 a2 a3 s b c) (q0 : 1 ≤ q) (q1 : q ≤ 65536) : slice_May.f h a1 a2 a3 s b c q = some true := by
  have e : slice_quantum.f q = some true := by unfold slice_quantum.f; rw [if_pos q0]; simp [q1]
  obtain ⟨s0, s1, c0, c1, no, yes⟩ := o
  unfold slice_May.f
  rw [e]
  simp only [Option.bind_some, if_true]
  rw [if_neg (by omega), if_neg (by omega)]
  by_cases hc : c > 0
  · rw [if_pos hc, if_pos (yes hc)]
    cases h with
    | true => simp
    | false => have := (no rfl).2.2.2.2; omega
  · rw [if_neg hc]
    cases h with
    | true => simp
    | false =>
      obtain ⟨rfl, rfl, rfl, rfl, rfl⟩ := no rfl
      simp
theorem stand_refmay (k : Nat) {q : Int} {h : Bool} {a1 a2 a3 s : Int} {b : Bool} {c : Int} (o : Stand q h a1 a2 a3 s b c) (q0 : 1 ≤ q) (q1 : q ≤ 65536) : rotaref22_May.f (k + 1) h a1 a2 a3 s b c q = some true := by
  have e : rotaref22_quanta.f q = some true := by unfold rotaref22_quanta.f; rw [if_pos q0]; simp [q1]
  obtain ⟨s0, s1, c0, c1, no, yes⟩ := o
  unfold rotaref22_May.f
  rw [e]
  simp only [Option.bind_some, if_true]
  have z : decide (c > 8) = false := by simp; omega
  rw [if_neg (by omega), z, rotaref22_May.j0]
  simp only [Bool.false_eq_true, if_false]
  cases h with
  | true =>
    by_cases hc : c = 0
    · simp [hc]
    · simp [hc, yes (by omega)]
  | false =>
    obtain ⟨rfl, rfl, rfl, rfl, rfl⟩ := no rfl
    simp
theorem dispatch_stand {q : Int} {h : Bool} {a1 a2 a3 s : Int} {b : Bool} {c : Int} (o : Stand q h a1 a2 a3 s b c) (q0 : 1 ≤ q) (q1 : q ≤ 65536) (t : Int) (i : Bool) :
    ∃ h' b1 b2 b3 s' b' c' e, slice_Dispatch.f h a1 a2 a3 s b c 0 0 t i q = some (h', b1, b2, b3, s', b', c', e) ∧ Stand q h' b1 b2 b3 s' b' c' := by
  unfold slice_Dispatch.f
  rw [if_pos ⟨q0, q1⟩]
  cases h with
  | true => exact ⟨_, _, _, _, _, _, _, _, by rw [if_pos rfl], o⟩
  | false =>
    rw [if_neg (by decide)]
    cases i with
    | true => exact ⟨_, _, _, _, _, _, _, _, by rw [if_pos rfl], ⟨o.s0, o.s1, by omega, by omega, (fun h0 => by cases h0), fun h => by omega⟩⟩
    | false => exact ⟨_, _, _, _, _, _, _, _, by rw [if_neg (by decide)], ⟨by omega, by omega, by omega, by omega, (fun h0 => by cases h0), fun h => by omega⟩⟩
theorem begin_stand (k : Nat) {q : Int} {h : Bool} {a1 a2 a3 s : Int} {b : Bool} {c : Int} (o : Stand q h a1 a2 a3 s b c) (x : Int) :
    ∃ h' b1 b2 b3 s' b' c' e, slice_Begin.f (k + 1) h a1 a2 a3 s b c x = some (h', b1, b2, b3, s', b', c', e) ∧ Stand q h' b1 b2 b3 s' b' c' := by
  have same : ∀ r : Int, ∃ h' b1 b2 b3 s' b' c' e, (some (h, a1, a2, a3, s, b, c, r) : Option (Bool × Int × Int × Int × Int × Bool × Int × Int)) = some (h', b1, b2, b3, s', b', c', e) ∧ Stand q h' b1 b2 b3 s' b' c' := fun r => ⟨_, _, _, _, _, _, _, _, rfl, o⟩
  unfold slice_Begin.f
  by_cases h1 : x < 1
  · rw [if_pos h1, slice_Begin.j0, if_pos rfl]; exact same _
  rw [if_neg h1]
  by_cases h2 : x > 8
  · have z : decide (x > 8) = true := by simpa using h2
    rw [z, slice_Begin.j0, if_pos rfl]; exact same _
  have z : decide (x > 8) = false := by simpa using h2
  rw [z, slice_Begin.j0, if_neg (by decide)]
  cases h with
  | false => rw [if_neg (by decide)]; exact same _
  | true =>
    rw [if_pos rfl]
    by_cases h3 : c > 0
    · rw [if_pos h3]; exact same _
    rw [if_neg h3]
    by_cases h4 : s = 0
    · rw [if_pos h4]; exact same _
    rw [if_neg h4]
    exact ⟨_, _, _, _, _, _, _, _, rfl, ⟨o.s0, o.s1, by omega, by omega, (fun h0 => by cases h0), fun _ => rfl⟩⟩
theorem tick_stand {q : Int} {h : Bool} {a1 a2 a3 s : Int} {b : Bool} {c : Int} (o : Stand q h a1 a2 a3 s b c) (q1 : q ≤ 65536) :
    ∃ h' b1 b2 b3 s' b' c' d e, slice_Tick.f h a1 a2 a3 s b c = some (h', b1, b2, b3, s', b', c', d, e) ∧ Stand q h' b1 b2 b3 s' b' c' := by
  obtain ⟨s0, s1, c0, c1, no, yes⟩ := o
  unfold slice_Tick.f
  by_cases h1 : c = 0
  · rw [if_pos h1]; exact ⟨_, _, _, _, _, _, _, _, _, rfl, ⟨s0, s1, c0, c1, no, yes⟩⟩
  rw [if_neg h1]
  have m : 0 ≤ s - mn s 1 ∧ s - mn s 1 ≤ s := by unfold mn; omega
  refine ⟨_, _, _, _, _, _, _, _, _, rfl, ?_⟩
  rw [u64in (s - mn s 1) m.1 (by omega), u64in (c - 1) (by omega) (by omega)]
  refine ⟨m.1, by omega, by omega, by omega, fun h0 => ?_, fun _ => yes (by omega)⟩
  have := (no h0).2.2.2.2
  omega
theorem leave_stand {q : Int} {h : Bool} {a1 a2 a3 s : Int} {b : Bool} {c : Int} (o : Stand q h a1 a2 a3 s b c) :
    ∃ h' b1 b2 b3 s' b' c' d1 d2 d3 d4 e, slice_Leave.f h a1 a2 a3 s b c = some (h', b1, b2, b3, s', b', c', d1, d2, d3, d4, e) ∧ Stand q h' b1 b2 b3 s' b' c' := by
  unfold slice_Leave.f
  cases h with
  | false => rw [if_neg (by decide)]; exact ⟨_, _, _, _, _, _, _, _, _, _, _, _, rfl, o⟩
  | true =>
    rw [if_pos rfl]
    by_cases h1 : c > 0
    · rw [if_pos h1]; exact ⟨_, _, _, _, _, _, _, _, _, _, _, _, rfl, o⟩
    · rw [if_neg h1]
      exact ⟨_, _, _, _, _, _, _, _, _, _, _, _, rfl, ⟨o.s0, o.s1, by omega, by omega, fun _ => ⟨rfl, rfl, rfl, rfl, rfl⟩, fun h => by omega⟩⟩
theorem close_stand {q : Int} {h : Bool} {a1 a2 a3 s : Int} {b : Bool} {c : Int} (o : Stand q h a1 a2 a3 s b c) (q0 : 1 ≤ q) :
    ∃ h' b1 b2 b3 s' b' c' e, slice_Close.f h a1 a2 a3 s b c = some (h', b1, b2, b3, s', b', c', e) ∧ Stand q h' b1 b2 b3 s' b' c' := by
  unfold slice_Close.f
  cases h with
  | true => exact ⟨_, _, _, _, _, _, _, _, by rw [if_pos rfl], o⟩
  | false =>
    exact ⟨_, _, _, _, _, _, _, _, by rw [if_neg (by decide)], ⟨by omega, by omega, by omega, by omega, fun _ => ⟨rfl, rfl, rfl, rfl, rfl⟩, fun h => by omega⟩⟩
theorem keep_up {e : Nat} (h : e + 1 ≤ 9223372036854775807) : wrap64 ((e : Int) + 1) = ((e + 1 : Nat) : Int) := by unfold wrap64; omega
theorem bind_of {α β : Type} {o : Option α} {a : α} {f : α → Option β} {r : Option β} (h : o = some a) (hf : f a = r) : o.bind f = r := by rw [h]; exact hf
theorem keeps_all {q : Int} (q0 : 1 ≤ q) (q1 : q ≤ 65536) {l : List S45} (hl : l.length ≤ 9223372036854775807) : ∀ (d k i : Nat) (h : Bool) (a1 a2 a3 s : Int) (b : Bool) (c : Int), i + d = l.length → 3 * d + 5 ≤ k → Stand q h a1 a2 a3 s b c →
    rotalaw22_SliceKeeps.l0 k q l i h a1 a2 a3 s b c = some true := by
  intro d
  induction d with
  | zero =>
    intro k i h a1 a2 a3 s b c hi hk o
    obtain ⟨k, rfl⟩ : ∃ m, k = m + 2 := ⟨k - 2, by omega⟩
    rw [rotalaw22_SliceKeeps.l0, if_neg (by omega)]
    exact bind_of (awake_eq k) rfl
  | succ d ih =>
    intro k i h a1 a2 a3 s b c hi hk o
    obtain ⟨k, rfl⟩ : ∃ m, k = m + 4 := ⟨k - 4, by omega⟩
    have tail : ∀ h' b1 b2 b3 s' b' c', Stand q h' b1 b2 b3 s' b' c' → rotalaw22_SliceKeeps.j4 (k + 2) q l i h' b1 b2 b3 s' b' c' = some true := by
      intro h' b1 b2 b3 s' b' c' o'
      rw [rotalaw22_SliceKeeps.j4]
      refine bind_of (stand_may o' q0 q1) ?_
      rw [if_pos rfl]
      refine bind_of (stand_refmay k o' q0 q1) ?_
      rw [if_pos rfl, keep_up (by omega)]
      exact ih (k + 1) (i + 1) h' b1 b2 b3 s' b' c' (by omega) (by omega) o'
    have step : ∀ (x : S45) (f : Bool), rotalaw22_SliceKeeps.j3 (k + 3) q l i x.f0 f h a1 a2 a3 s b c x.f0 x.f1 x.f2 = some true := by
      intro x f
      rw [rotalaw22_SliceKeeps.j3]
      cases f with
      | true =>
        obtain ⟨h', b1, b2, b3, s', b', c', e, he, o'⟩ := dispatch_stand o q0 q1 x.f1 (x.f0 == 1)
        rw [if_pos rfl]
        exact bind_of he (tail _ _ _ _ _ _ _ o')
      | false =>
        rw [if_neg (by decide)]
        by_cases h2 : x.f0 = 2
        · obtain ⟨h', b1, b2, b3, s', b', c', e, he, o'⟩ := begin_stand (k + 1) o x.f2
          rw [if_pos h2]
          exact bind_of he (tail _ _ _ _ _ _ _ o')
        rw [if_neg h2]
        by_cases h3 : x.f0 = 3
        · obtain ⟨h', b1, b2, b3, s', b', c', d, e, he, o'⟩ := tick_stand o q1
          rw [if_pos h3]
          exact bind_of he (tail _ _ _ _ _ _ _ o')
        rw [if_neg h3]
        by_cases h4 : x.f0 = 4
        · obtain ⟨h', b1, b2, b3, s', b', c', d1, d2, d3, d4, e, he, o'⟩ := leave_stand o
          rw [if_pos h4]
          exact bind_of he (tail _ _ _ _ _ _ _ o')
        rw [if_neg h4]
        by_cases h5 : x.f0 = 5
        · obtain ⟨h', b1, b2, b3, s', b', c', e, he, o'⟩ := close_stand o q0
          rw [if_pos h5]
          exact bind_of he (tail _ _ _ _ _ _ _ o')
        rw [if_neg h5]
        exact tail _ _ _ _ _ _ _ o
    rw [rotalaw22_SliceKeeps.l0, if_pos (by omega), if_pos (by omega)]
    split
    · exact step _ _
    · exact step _ _
theorem SliceKeeps : KeepsPure := by
  intro q l hl
  refine ⟨3 * l.length + 8, ?_⟩
  have key : ∀ p : Int, 1 ≤ p → p ≤ 65536 → rotalaw22_SliceKeeps.j1 (3 * l.length + 7) p l = some true := by
    intro p p0 p1
    rw [rotalaw22_SliceKeeps.j1]
    exact keeps_all p0 p1 hl l.length _ 0 false 0 0 0 0 false 0 (by omega) (by omega) ⟨by omega, by omega, by omega, by omega, fun _ => ⟨rfl, rfl, rfl, rfl, rfl⟩, fun h => by omega⟩
  unfold rotalaw22_SliceKeeps.f
  by_cases h1 : q < 1
  · rw [if_pos h1, rotalaw22_SliceKeeps.j0, if_pos rfl]
    exact key 7 (by decide) (by decide)
  · rw [if_neg h1]
    by_cases h2 : q > 65536
    · have z : decide (q > 65536) = true := by simpa using h2
      rw [z, rotalaw22_SliceKeeps.j0, if_pos rfl]
      exact key 7 (by decide) (by decide)
    · have z : decide (q > 65536) = false := by simpa using h2
      rw [z, rotalaw22_SliceKeeps.j0, if_neg (by decide)]
      exact key q (by omega) (by omega)
end Go.Proofs.Ytdmfoeokfmgglaa.Pure
