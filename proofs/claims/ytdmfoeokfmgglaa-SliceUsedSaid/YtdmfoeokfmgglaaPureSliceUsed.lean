/- However long the window, a slice of a quantum lets fewer ticks pass than quantum and MaxCost; handed on, it is the same slice: no condition. -/
import Derived.Test.YtdmfoeokfmgglaaPSliceUsedx
import Derived.Test.YtdmfoeokfmgglaaSl
set_option linter.unusedVariables false
set_option linter.unusedSimpArgs false
namespace Go.Proofs.Ytdmfoeokfmgglaa.Pure
open Go.RowKit Go.Proofs.Ytdmfoeokfmgglaa.PSliceUsed Go.Proofs.YtdmfoeokfmgglaaW.PrintWords Go.Proofs.YtdmfoeokfmgglaaW.PrintLast Go.Proofs.Ytdmfoeokfmgglaa.Sl

theorem awake_eq (k : Nat) : rotalaw22_awake.f (k + 1) = some true := by rfl

theorem begin_yes (k : Nat) (a1 a2 a3 s : Int) (b : Bool) (x : Int) (h1 : 1 ≤ x) (h2 : x ≤ 8) (hs : s ≠ 0) : slice_Begin.f (k + 1) true a1 a2 a3 s b 0 x = some (true, a1, a2, a3, s, true, x, 0) := by
  unfold slice_Begin.f
  rw [if_neg (by omega)]
  have : decide (x > 8) = false := by simp; omega
  rw [this, slice_Begin.j0]
  simp [hs]
theorem begin_no (k : Nat) (h : Bool) (a1 a2 a3 s : Int) (b : Bool) (c x : Int) (hx : ¬ (1 ≤ x ∧ x ≤ 8)) : slice_Begin.f (k + 1) h a1 a2 a3 s b c x = some (h, a1, a2, a3, s, b, c, 1) := by
  unfold slice_Begin.f
  by_cases h1 : x < 1
  · rw [if_pos h1, slice_Begin.j0]; simp
  · rw [if_neg h1]
    have : decide (x > 8) = true := by simp; omega
    rw [this, slice_Begin.j0]; simp

theorem tick_yes (h : Bool) (a1 a2 a3 s : Int) (b : Bool) (c : Int) (s0 : 0 ≤ s) (s1 : s < 18446744073709551616) (c0 : 0 < c) (c1 : c < 18446744073709551616) : slice_Tick.f h a1 a2 a3 s b c = some (h, a1, a2, a3, dec s, b, c - 1, decide (c = 1), 0) := by
  unfold slice_Tick.f
  rw [if_neg (by omega), u64in (c - 1) (by omega) (by omega)]
  have e : s - mn s 1 = dec s := by unfold mn dec; split <;> (first | omega | (split <;> omega))
  have d := dec_bd s0
  rw [e, u64in (dec s) d.1 (by omega)]
  have e2 : (c - 1 == 0) = decide (c = 1) := by rw [Bool.eq_iff_iff]; simp; omega
  rw [e2]

theorem rd_nat (L : List Int) (e : Nat) : rd L (e : Int) = L.getD e 0 := by simp [rd]
theorem wrap_up {e : Nat} (h : e ≤ 140737488351233) : wrap64 ((e : Int) + 1) = ((e + 1 : Nat) : Int) := by unfold wrap64; omega
theorem run_all (L : List Int) (hL : L.length ≤ 140737488351232) (hw : ∀ x ∈ L, (Lit.int .u64 x).wf = true) : ∀ (n k e : Nat) (t : Int) (h : Bool) (a1 a2 a3 s : Int) (b : Bool) (c : Int),
    3 * n + 4 ≤ k → (0 < c → e ≤ L.length) → e ≤ L.length + 1 → 0 ≤ t → t + n < 18446744073709551616 → 0 ≤ s → s < 18446744073709551616 → 0 ≤ c → c < 18446744073709551616 →
    slice_Run.l0 k L n e t h a1 a2 a3 s b c = some (((fin L n e h s b c).1 : Int), t + ((fin L n e h s b c).2.1 : Int), h, a1, a2, a3, (fin L n e h s b c).2.2.1, (fin L n e h s b c).2.2.2.1, (fin L n e h s b c).2.2.2.2) := by
  intro n
  induction n with
  | zero =>
    intro k e t h a1 a2 a3 s b c hk _ _ _ _ _ _ _ _
    obtain ⟨k, rfl⟩ : ∃ m, k = m + 1 := ⟨k - 1, by omega⟩
    rw [slice_Run.l0, if_neg (by simp), fin]
    simp
  | succ n ih =>
    intro k e t h a1 a2 a3 s b c hk he he1 t0 t1 s0 s1 c0 c1
    obtain ⟨k, rfl⟩ : ∃ m, k = m + 4 := ⟨k - 4, by omega⟩
    have hr : slice_Run.l0 (k + 4) L ((n + 1 : Nat) : Int) e t h a1 a2 a3 s b c = slice_Run.j1 (k + 3) L ((n + 1 : Nat) : Int) e t (if e < L.length then L.getD e 0 else 0) h a1 a2 a3 s b c := by
      rw [slice_Run.l0, if_pos (by omega)]
      by_cases hlt : e < L.length
      · rw [if_pos (by omega), if_pos (by omega), if_pos hlt, rd_nat]
      · rw [if_neg (by omega), if_neg hlt]
    rw [hr, slice_Run.j1, fin]
    have hx : IntKind.u64.wrap (((n + 1 : Nat) : Int) - 1) = (n : Int) := by
      have : ((n + 1 : Nat) : Int) - 1 = n := by omega
      rw [this, u64in _ (by omega) (by omega)]
    have ht : IntKind.u64.wrap (t + 1) = t + 1 := u64in _ (by omega) (by omega)
    have hd := dec_bd s0
    cases h with
    | false => simp [slice_Decide.f]
    | true =>
      simp only [Bool.true_eq_false, if_false]
      by_cases hc : 0 < c
      · rw [if_pos hc]
        have D : slice_Decide.f true a1 a2 a3 s b c (if e < L.length then L.getD e 0 else 0) ((n + 1 : Nat) : Int) = some 2 := by
          unfold slice_Decide.f; rw [if_pos rfl, if_pos hc]
        rw [D]
        simp only [Option.bind_some]
        rw [if_neg (by decide), if_pos trivial, tick_yes true a1 a2 a3 s b c s0 s1 hc c1]
        simp only [Option.bind_some, decide_eq_true_eq]
        have he := he hc
        rw [hx, ht, wrap_up (by omega)]
        by_cases h1 : c = 1
        · rw [if_pos h1, if_pos h1]
          rw [ih (k + 2) (e + 1) (t + 1) true a1 a2 a3 (dec s) b (c - 1) (by omega) (by omega) (by omega) (by omega) (by omega) hd.1 (by omega) (by omega) (by omega)]
          unfold onem
          simp; omega
        · rw [if_neg h1, if_neg h1]
          rw [ih (k + 2) e (t + 1) true a1 a2 a3 (dec s) b (c - 1) (by omega) (by omega) (by omega) (by omega) (by omega) hd.1 (by omega) (by omega) (by omega)]
          unfold onem
          simp; omega
      · obtain rfl : c = 0 := by omega
        rw [if_neg hc]
        by_cases h0 : s = 0
        · rw [if_pos h0]
          subst h0
          simp [slice_Decide.f]
        rw [if_neg h0]
        by_cases hg : goes L e (n + 1)
        · obtain ⟨g1, g2, g3, g4⟩ := hg
          rw [if_pos g1, if_pos (show goes L e (n + 1) from ⟨g1, g2, g3, g4⟩)]
          generalize hx' : L.getD e 0 = x at *
          have D : slice_Decide.f true a1 a2 a3 s b 0 x ((n + 1 : Nat) : Int) = some 5 := by
            unfold slice_Decide.f; rw [if_pos rfl, if_neg (by decide), if_neg h0, if_neg (by omega)]
          rw [D]
          simp only [Option.bind_some]
          rw [if_pos trivial, begin_yes (k + 1) a1 a2 a3 s b x g2 g3 h0]
          simp only [Option.bind_some]
          rw [if_neg (by omega)]
          have z : ((0 : Int) != 0) = false := by decide
          rw [z, slice_Run.j2, if_neg (by decide), tick_yes true a1 a2 a3 s true x s0 s1 (by omega) (by omega)]
          simp only [Option.bind_some, decide_eq_true_eq]
          rw [hx, ht, wrap_up (by omega)]
          by_cases h1 : x = 1
          · rw [if_pos h1, if_pos h1]
            rw [ih (k + 1) (e + 1) (t + 1) true a1 a2 a3 (dec s) true (x - 1) (by omega) (by omega) (by omega) (by omega) (by omega) hd.1 (by omega) (by omega) (by omega)]
            unfold onem
            simp; omega
          · rw [if_neg h1, if_neg h1]
            rw [ih (k + 1) e (t + 1) true a1 a2 a3 (dec s) true (x - 1) (by omega) (by omega) (by omega) (by omega) (by omega) hd.1 (by omega) (by omega) (by omega)]
            unfold onem
            simp; omega
        · rw [if_neg hg]
          generalize hx' : (if e < L.length then L.getD e 0 else 0) = x
          by_cases h4 : x > ((n + 1 : Nat) : Int)
          · have D : slice_Decide.f true a1 a2 a3 s b 0 x ((n + 1 : Nat) : Int) = some 4 := by
              unfold slice_Decide.f; rw [if_pos rfl, if_neg (by decide), if_neg h0, if_pos h4]
            rw [D]
            simp
          · have D : slice_Decide.f true a1 a2 a3 s b 0 x ((n + 1 : Nat) : Int) = some 5 := by
              unfold slice_Decide.f; rw [if_pos rfl, if_neg (by decide), if_neg h0, if_neg h4]
            rw [D]
            simp only [Option.bind_some]
            rw [if_pos trivial]
            by_cases hlt : e < L.length
            · rw [if_pos hlt] at hx'
              rw [begin_no (k + 1) true a1 a2 a3 s b 0 x (fun ⟨p, q⟩ => hg ⟨hlt, by omega, by omega, by omega⟩)]
              simp only [Option.bind_some]
              rw [if_neg (by omega)]
              have z : ((1 : Int) != 0) = true := by decide
              rw [z, slice_Run.j2, if_pos rfl]
              simp
            · rw [if_neg hlt] at hx'
              rw [begin_no (k + 1) true a1 a2 a3 s b 0 x (by omega)]
              simp only [Option.bind_some]
              rw [if_pos (by omega), slice_Run.j2, if_pos rfl]
              simp
/-- Run, from any processor. -/
theorem run_eq {L : List Int} (hL : L.length ≤ 140737488351232) (hw : ∀ x ∈ L, (Lit.int .u64 x).wf = true) {n k : Nat} (hk : 3 * n + 4 ≤ k) (hn : n < 18446744073709551616) (h : Bool) (a1 a2 a3 : Int) {s : Int} (b : Bool) {c : Int} (s0 : 0 ≤ s) (s1 : s < 18446744073709551616) (c0 : 0 ≤ c) (c1 : c < 18446744073709551616) :
    slice_Run.f k h a1 a2 a3 s b c L n = some (((fin L n 0 h s b c).1 : Int), ((fin L n 0 h s b c).2.1 : Int), h, a1, a2, a3, (fin L n 0 h s b c).2.2.1, (fin L n 0 h s b c).2.2.2.1, (fin L n 0 h s b c).2.2.2.2) := by
  have := run_all L hL hw n k 0 0 h a1 a2 a3 s b c hk (fun _ => by omega) (by omega) (by omega) (by omega) s0 s1 c0 c1
  unfold slice_Run.f
  simpa using this
/-- Run, from between two instructions. -/
theorem run_eq0 {L : List Int} (hL : L.length ≤ 140737488351232) (hw : ∀ x ∈ L, (Lit.int .u64 x).wf = true) {n k : Nat} (hk : 3 * n + 4 ≤ k) (hn : n < 18446744073709551616) (h : Bool) (a1 a2 a3 : Int) {s : Int} (b : Bool) (s0 : 0 ≤ s) (s1 : s < 18446744073709551616) :
    slice_Run.f k h a1 a2 a3 s b 0 L n = some (((irun L n h s b).1 : Int), ((irun L n h s b).2.1 : Int), h, a1, a2, a3, (irun L n h s b).2.2.1, (irun L n h s b).2.2.2, 0) := by
  rw [run_eq hL hw hk hn h a1 a2 a3 b s0 s1 (by omega) (by omega), fin_irun L n 0 h s b s0]
  simp

theorem SliceUsed : rotalaw22_SliceUsed.Pure := by
  intro q L M wq hm hL hw hm2 hM hw2
  obtain ⟨q0, q1⟩ := u64b wq
  have hL' : L.length ≤ 140737488351232 := by omega
  have hM' : M.length ≤ 140737488351232 := by omega
  refine ⟨3 * 18446744073709551615 + 10, ?_⟩
  generalize hK : 3 * 18446744073709551615 + 10 = K
  have key : ∀ p : Int, 1 ≤ p → p ≤ 200 → rotalaw22_SliceUsed.j1 (K - 1) p L M = some true := by
    intro p p0 p1
    obtain ⟨k, rfl⟩ : ∃ k, K = k + 4 := ⟨K - 4, by omega⟩
    have e : k + 4 - 1 = (k + 2) + 1 := by omega
    have d1 : slice_Dispatch.f false 0 0 0 0 false 0 0 0 1 false p = some (true, 0, 0, 1, p, false, 0, 0) := by
      unfold slice_Dispatch.f; rw [if_pos ⟨by omega, by omega⟩]; simp
    have big : (18446744073709551615 : Int) = ((18446744073709551615 : Nat) : Int) := by rfl
    rw [e, rotalaw22_SliceUsed.j1, d1]
    simp only [Option.bind_some]
    rw [if_pos trivial, big, run_eq0 hL' hw (by omega) (by decide) true 0 0 1 false (by omega) (by omega)]
    simp only [Option.bind_some]
    obtain ⟨i1, i2, i3, i4, i5, i6, i7, i8⟩ := irun_slice L 18446744073709551615 true p false (by omega)
    generalize irun L 18446744073709551615 true p false = r at *
    obtain ⟨r1, r2, r3, r4⟩ := r
    simp only [Bool.false_or] at *
    have w8 : IntKind.u64.wrap (p + 8) = p + 8 := u64in _ (by omega) (by omega)
    rw [w8, if_neg (by omega)]
    have z : decide ((0 : Int) > 0) = false := by decide
    rw [z, rotalaw22_SliceUsed.j2, if_neg (by decide)]
    have lv : slice_Leave.f true 0 0 1 r3 r4 0 = some (false, 0, 0, 0, r3, false, 0, 0, 0, 1, r4, 0) := by
      unfold slice_Leave.f; simp
    rw [lv]
    simp only [Option.bind_some]
    have z2 : (r4 != decide ((r2 : Int) > 0)) = false := by
      rw [i7]; simp
    rw [if_pos trivial, z2, rotalaw22_SliceUsed.j3, if_neg (by decide)]
    have d2 : slice_Dispatch.f false 0 0 0 r3 false 0 0 0 2 true p = some (true, 0, 0, 2, r3, false, 0, 0) := by
      unfold slice_Dispatch.f; rw [if_pos ⟨by omega, by omega⟩]; simp
    rw [d2]
    simp only [Option.bind_some]
    rw [big, run_eq0 hM' hw2 (by omega) (by decide) true 0 0 2 false i1 (by omega)]
    simp only [Option.bind_some]
    obtain ⟨j1, j2, j3, j4, j5, j6, j7, j8⟩ := irun_slice M 18446744073709551615 true r3 false i1
    generalize irun M 18446744073709551615 true r3 false = u at *
    obtain ⟨u1, u2, u3, u4⟩ := u
    simp only [Bool.false_or] at *
    have s1 : ((r2 : Int) + (u2 : Int)) < p + 8 := by
      by_cases h : r3 = 0
      · have := j6 h; omega
      · have := i3 h; omega
    rw [if_pos trivial, w8, u64in ((r2 : Int) + (u2 : Int)) (by omega) (by omega), if_pos s1]
    by_cases s2 : ((r2 : Int) + (u2 : Int)) < p
    · obtain ⟨m, rfl⟩ : ∃ m, k = m + 1 := ⟨k - 1, by omega⟩
      rw [if_pos s2, awake_eq]; rfl
    · rw [if_neg s2]
      have u0 : u3 = 0 := by
        apply Classical.byContradiction
        intro h
        have a := j3 h
        have : r3 ≠ 0 := by omega
        have := i3 this
        omega
      subst u0
      have dd : slice_Decide.f true 0 0 2 0 u4 0 1 1 = some 3 := by unfold slice_Decide.f; simp
      rw [dd]
      simp only [Option.bind_some]
      obtain ⟨m, rfl⟩ : ∃ m, k = m + 1 := ⟨k - 1, by omega⟩
      rw [if_pos trivial, awake_eq]; rfl
  unfold rotalaw22_SliceUsed.f
  obtain ⟨k, hk⟩ : ∃ k, K = k + 1 := ⟨K - 1, by omega⟩
  have e : K - 1 = k := by omega
  rw [e] at key
  rw [hk]
  by_cases h1 : q < 1
  · rw [if_pos h1, rotalaw22_SliceUsed.j0, if_pos rfl]
    obtain rfl : q = 0 := by omega
    exact key 1 (by decide) (by decide)
  · rw [if_neg h1]
    by_cases h2 : q > 200
    · have z : decide (q > 200) = true := by simp; omega
      have e : Int.tmod q 200 = q % 200 := Int.tmod_eq_emod_of_nonneg q0
      rw [z, rotalaw22_SliceUsed.j0, if_pos rfl, e, u64in (q % 200 + 1) (by omega) (by omega)]
      exact key _ (by omega) (by omega)
    · have z : decide (q > 200) = false := by simp; omega
      rw [z, rotalaw22_SliceUsed.j0, if_neg (by decide)]
      exact key _ (by omega) (by omega)
end Go.Proofs.Ytdmfoeokfmgglaa.Pure
