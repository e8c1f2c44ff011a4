/- Among as many ticks as a frame has, Length are inside: no condition. -/
import Derived.Test.YtafgilnjggindaaPTickTurnsx
import Derived.Test.YtafgilnjggindaaTk
set_option linter.unusedVariables false
set_option linter.unusedSimpArgs false
namespace Go.Proofs.Ytafgilnjggindaa.Pure
open Go.RowKit Go.Proofs.Ytafgilnjggindaa.PTickTurns Go.Proofs.YtafgilnjggindaaW.PrintWords Go.Proofs.YtafgilnjggindaaW.PrintLast Go.Proofs.Ytafgilnjggindaa.Tk

theorem lives_eq : rotalaw01_lives.f = some true := by
  simp [rotalaw01_lives.f, tick_Add.f]

theorem add_eq {a b : Int} (a0 : 0 ≤ a) (b0 : 0 ≤ b) (ha : a < 18446744073709551616) (hb : b < 18446744073709551616) :
    tick_Add.f a b = if 18446744073709551615 < a + b then some (0, 10) else some (a + b, 0) := by
  unfold tick_Add.f
  rw [if_pos a0, if_pos b0]
  by_cases h : 18446744073709551615 < a + b
  · rw [if_pos h, if_pos (by omega)]
  · rw [if_neg h, if_neg (by omega), Int.emod_eq_of_lt (by omega) (by omega)]

theorem may_cases {F S L : Int} (f0 : 0 ≤ F) (s0 : 0 ≤ S) (l0 : 0 ≤ L) (hF : F < 18446744073709551616) :
    (Ok F S L ∧ tick_May.f S L F = some 0) ∨ (∃ e, e ≠ 0 ∧ tick_May.f S L F = some e) := by
  unfold tick_May.f
  by_cases h1 : F = 0
  · exact .inr ⟨11, by decide, by rw [if_pos h1]⟩
  by_cases h2 : L < 1
  · exact .inr ⟨1, by decide, by rw [if_neg h1, if_pos h2]⟩
  by_cases h3 : S ≥ F
  · exact .inr ⟨1, by decide, by rw [if_neg h1, if_neg h2, if_pos h3]⟩
  rw [u64in (F - S) (by omega) (by omega)]
  by_cases h4 : L > F - S
  · exact .inr ⟨1, by decide, by rw [if_neg h1, if_neg h2, if_neg h3, if_pos h4]⟩
  · exact .inl ⟨⟨by omega, by omega, by omega, by omega⟩, by rw [if_neg h1, if_neg h2, if_neg h3, if_neg h4]⟩

theorem inside_eq {F S L t : Int} (o : Ok F S L) (t0 : 0 ≤ t) (hF : F < 18446744073709551616) : tick_inside.f t F S L = some (ins t F S L) := by
  have ⟨f0, s0, l1, fit⟩ := o
  have r0 := Int.emod_nonneg t (Int.ne_of_gt f0)
  have r1 := Int.emod_lt_of_pos t f0
  unfold tick_inside.f ins
  rw [if_neg (Int.ne_of_gt f0), tmod_pos t0]
  by_cases h : t % F ≥ S
  · rw [if_pos h, u64in _ (by omega) (by omega)]; simp [h]
  · rw [if_neg h]; simp only [ge_iff_le] at h; simp [h]

theorem below_eq {F S L t : Int} (o : Ok F S L) (t0 : 0 ≤ t) (ht : t < 18446744073709551616) (hF : F < 18446744073709551616) : tick_below.f t F S L = some (cnt t F S L) := by
  have ⟨f0, s0, l1, fit⟩ := o
  have r0 := Int.emod_nonneg t (Int.ne_of_gt f0)
  have r1 := Int.emod_lt_of_pos t f0
  have ⟨b0, b1⟩ := base_bd o t0
  have ⟨c0, c1⟩ := cnt_bd o t0
  have q0 : 0 ≤ t / F := Int.ediv_nonneg t0 (by omega)
  have q1 : t / F ≤ t := Int.ediv_le_self F t0
  unfold tick_below.f
  rw [if_neg (Int.ne_of_gt f0), tmod_pos t0, tdiv_pos t0, u64in (t / F) q0 (by omega), u64in (t / F * L) (by omega) (by omega)]
  unfold cnt at c0 c1 ⊢
  by_cases h : t % F > S
  · rw [if_pos h, if_neg (by omega)]
    rw [if_neg (by omega)] at c0 c1
    rw [u64in (t % F - S) (by omega) (by omega)]
    by_cases h2 : L ≤ t % F - S
    · rw [if_pos h2] at c0 c1 ⊢
      have e : mn (t % F - S) L = L := by unfold mn; omega
      rw [e, u64in _ (by omega) (by omega)]
    · rw [if_neg h2] at c0 c1 ⊢
      have e : mn (t % F - S) L = t % F - S := by unfold mn; omega
      rw [e, u64in _ (by omega) (by omega)]
  · rw [if_neg h, if_pos (by omega), Int.add_zero]

theorem count_eq {F S L t n : Int} (o : Ok F S L) (t0 : 0 ≤ t) (n0 : 0 ≤ n) (ht : t < 18446744073709551616) (hn : n < 18446744073709551616) (hF : F < 18446744073709551616) (hm : tick_May.f S L F = some 0) :
    tick_Count.f t n F S L = if n = 0 then some (0, 0) else if 18446744073709551616 < t + n then some (0, 10) else some (cnt (t + n) F S L - cnt t F S L, 0) := by
  unfold tick_Count.f
  rw [hm]
  simp only [Option.bind_some]
  rw [if_pos trivial]
  by_cases h : n = 0
  · rw [if_pos h, if_pos h]
  rw [if_neg h, if_neg h, u64in (n - 1) (by omega) (by omega), add_eq (by omega) (by omega) (by omega) (by omega)]
  by_cases h2 : 18446744073709551616 < t + n
  · rw [if_pos h2, if_pos (by omega)]
    simp
  rw [if_neg h2, if_neg (by omega)]
  simp only [Option.bind_some]
  rw [if_pos trivial, below_eq o (by omega) (by omega) hF, below_eq o t0 ht hF, inside_eq o (by omega) hF]
  simp only [Option.bind_some]
  have st := cnt_step (t := t + (n - 1)) o
  have e : t + (n - 1) + 1 = t + n := by omega
  rw [e] at st
  have m := cnt_mono o (t := t) (u := t + (n - 1)) (by omega)
  rw [st, u64in (cnt (t + (n - 1)) F S L - cnt t F S L) (by omega) (by omega)]
  by_cases h3 : ins (t + (n - 1)) F S L = true
  · rw [if_pos h3, if_pos h3, u64in _ (by omega) (by omega)]
    congr 2; omega
  · rw [if_neg h3, if_neg h3, Int.add_zero]
theorem count_no {F S L t n e : Int} (he : e ≠ 0) (hm : tick_May.f S L F = some e) : tick_Count.f t n F S L = some (0, e) := by
  unfold tick_Count.f
  rw [hm]
  simp only [Option.bind_some]
  rw [if_neg he]

theorem TickTurns : rotalaw01_TickTurns.Pure := by
  intro t F S L wt wF wS wL
  obtain ⟨t0, ht⟩ := u64b wt
  obtain ⟨f0, hF⟩ := u64b wF
  obtain ⟨s0, hS⟩ := u64b wS
  obtain ⟨l0, hL⟩ := u64b wL
  unfold rotalaw01_TickTurns.f
  rw [lives_eq]
  simp only [Option.bind_some, if_true]
  rcases may_cases f0 s0 l0 hF with ⟨o, hm⟩ | ⟨e, he, hm⟩
  · have f1 := o.f0
    rw [count_eq o t0 f0 ht hF hF hm, if_neg (Int.ne_of_gt f1), cnt_frame o]
    split
    · simp
    · have e : cnt t F S L + L - cnt t F S L = L := by omega
      rw [e]; simp
  · rw [count_no he hm, hm]
    simp [he]
end Go.Proofs.Ytafgilnjggindaa.Pure
