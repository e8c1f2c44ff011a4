/- Up to the tick that Nth tells just k are inside, and it is: no condition. -/
import Derived.Test.YtafgilnjggindaaPTickFindsx
import Derived.Test.YtafgilnjggindaaTk
set_option linter.unusedVariables false
set_option linter.unusedSimpArgs false
namespace Go.Proofs.Ytafgilnjggindaa.Pure
open Go.RowKit Go.Proofs.Ytafgilnjggindaa.PTickFinds Go.Proofs.YtafgilnjggindaaW.PrintWords Go.Proofs.YtafgilnjggindaaW.PrintLast Go.Proofs.Ytafgilnjggindaa.Tk

theorem lives_eq : rotalaw01_lives.f = some true := by
  simp [rotalaw01_lives.f, tick_Add.f]

theorem add_eq {a b : Int} (a0 : 0 ≤ a) (b0 : 0 ≤ b) (ha : a < 18446744073709551616) (hb : b < 18446744073709551616) :
    tick_Add.f a b = if 18446744073709551615 < a + b then some (0, 10) else some (a + b, 0) := by
  unfold tick_Add.f
  rw [if_pos a0, if_pos b0]
  by_cases h : 18446744073709551615 < a + b
  · rw [if_pos h, if_pos (by omega)]
  · rw [if_neg h, if_neg (by omega), Int.emod_eq_of_lt (by omega) (by omega)]

theorem may_cases {F S L : Int} (f0 : 0 ≤ F) (s0 : 0 ≤ S) (l0 : 0 ≤ L) (hF : F < 18446744073709551616) :
    (Ok F S L ∧ tick_May.f S L F = some 0) ∨ (∃ e, e ≠ 0 ∧ tick_May.f S L F = some e) := by
  unfold tick_May.f
  by_cases h1 : F = 0
  · exact .inr ⟨11, by decide, by rw [if_pos h1]⟩
  by_cases h2 : L < 1
  · exact .inr ⟨1, by decide, by rw [if_neg h1, if_pos h2]⟩
  by_cases h3 : S ≥ F
  · exact .inr ⟨1, by decide, by rw [if_neg h1, if_neg h2, if_pos h3]⟩
  rw [u64in (F - S) (by omega) (by omega)]
  by_cases h4 : L > F - S
  · exact .inr ⟨1, by decide, by rw [if_neg h1, if_neg h2, if_neg h3, if_pos h4]⟩
  · exact .inl ⟨⟨by omega, by omega, by omega, by omega⟩, by rw [if_neg h1, if_neg h2, if_neg h3, if_neg h4]⟩

theorem inside_eq {F S L t : Int} (o : Ok F S L) (t0 : 0 ≤ t) (hF : F < 18446744073709551616) : tick_inside.f t F S L = some (ins t F S L) := by
  have ⟨f0, s0, l1, fit⟩ := o
  have r0 := Int.emod_nonneg t (Int.ne_of_gt f0)
  have r1 := Int.emod_lt_of_pos t f0
  unfold tick_inside.f ins
  rw [if_neg (Int.ne_of_gt f0), tmod_pos t0]
  by_cases h : t % F ≥ S
  · rw [if_pos h, u64in _ (by omega) (by omega)]; simp [h]
  · rw [if_neg h]; simp only [ge_iff_le] at h; simp [h]

theorem below_eq {F S L t : Int} (o : Ok F S L) (t0 : 0 ≤ t) (ht : t < 18446744073709551616) (hF : F < 18446744073709551616) : tick_below.f t F S L = some (cnt t F S L) := by
  have ⟨f0, s0, l1, fit⟩ := o
  have r0 := Int.emod_nonneg t (Int.ne_of_gt f0)
  have r1 := Int.emod_lt_of_pos t f0
  have ⟨b0, b1⟩ := base_bd o t0
  have ⟨c0, c1⟩ := cnt_bd o t0
  have q0 : 0 ≤ t / F := Int.ediv_nonneg t0 (by omega)
  have q1 : t / F ≤ t := Int.ediv_le_self F t0
  unfold tick_below.f
  rw [if_neg (Int.ne_of_gt f0), tmod_pos t0, tdiv_pos t0, u64in (t / F) q0 (by omega), u64in (t / F * L) (by omega) (by omega)]
  unfold cnt at c0 c1 ⊢
  by_cases h : t % F > S
  · rw [if_pos h, if_neg (by omega)]
    rw [if_neg (by omega)] at c0 c1
    rw [u64in (t % F - S) (by omega) (by omega)]
    by_cases h2 : L ≤ t % F - S
    · rw [if_pos h2] at c0 c1 ⊢
      have e : mn (t % F - S) L = L := by unfold mn; omega
      rw [e, u64in _ (by omega) (by omega)]
    · rw [if_neg h2] at c0 c1 ⊢
      have e : mn (t % F - S) L = t % F - S := by unfold mn; omega
      rw [e, u64in _ (by omega) (by omega)]
  · rw [if_neg h, if_pos (by omega), Int.add_zero]

theorem count_eq {F S L t n : Int} (o : Ok F S L) (t0 : 0 ≤ t) (n0 : 0 ≤ n) (ht : t < 18446744073709551616) (hn : n < 18446744073709551616) (hF : F < 18446744073709551616) (hm : tick_May.f S L F = some 0) :
    tick_Count.f t n F S L = if n = 0 then some (0, 0) else if 18446744073709551616 < t + n then some (0, 10) else some (cnt (t + n) F S L - cnt t F S L, 0) := by
  unfold tick_Count.f
  rw [hm]
  simp only [Option.bind_some]
  rw [if_pos trivial]
  by_cases h : n = 0
  · rw [if_pos h, if_pos h]
  rw [if_neg h, if_neg h, u64in (n - 1) (by omega) (by omega), add_eq (by omega) (by omega) (by omega) (by omega)]
  by_cases h2 : 18446744073709551616 < t + n
  · rw [if_pos h2, if_pos (by omega)]
    simp
  rw [if_neg h2, if_neg (by omega)]
  simp only [Option.bind_some]
  rw [if_pos trivial, below_eq o (by omega) (by omega) hF, below_eq o t0 ht hF, inside_eq o (by omega) hF]
  simp only [Option.bind_some]
  have st := cnt_step (t := t + (n - 1)) o
  have e : t + (n - 1) + 1 = t + n := by omega
  rw [e] at st
  have m := cnt_mono o (t := t) (u := t + (n - 1)) (by omega)
  rw [st, u64in (cnt (t + (n - 1)) F S L - cnt t F S L) (by omega) (by omega)]
  by_cases h3 : ins (t + (n - 1)) F S L = true
  · rw [if_pos h3, if_pos h3, u64in _ (by omega) (by omega)]
    congr 2; omega
  · rw [if_neg h3, if_neg h3, Int.add_zero]
theorem count_no {F S L t n e : Int} (he : e ≠ 0) (hm : tick_May.f S L F = some e) : tick_Count.f t n F S L = some (0, e) := by
  unfold tick_Count.f
  rw [hm]
  simp only [Option.bind_some]
  rw [if_neg he]

theorem left_eq {F S L t : Int} (o : Ok F S L) (t0 : 0 ≤ t) (hF : F < 18446744073709551616) (hm : tick_May.f S L F = some 0) :
    tick_Left.f t F S L = some (if ins t F S L = true then S + L - t % F else 0, 0) := by
  have ⟨f0, s0, l1, fit⟩ := o
  have r0 := Int.emod_nonneg t (Int.ne_of_gt f0)
  have r1 := Int.emod_lt_of_pos t f0
  unfold tick_Left.f
  rw [hm]
  simp only [Option.bind_some]
  rw [if_pos trivial, inside_eq o t0 hF]
  simp only [Option.bind_some]
  by_cases h : ins t F S L = true
  · have h' := ins_true.1 h
    rw [if_pos h, if_pos h, if_neg (Int.ne_of_gt f0), tmod_pos t0, u64in (S + L) (by omega) (by omega), u64in _ (by omega) (by omega)]
  · rw [if_neg h, if_neg h]
theorem left_no {F S L t e : Int} (he : e ≠ 0) (hm : tick_May.f S L F = some e) : tick_Left.f t F S L = some (0, e) := by
  unfold tick_Left.f
  rw [hm]
  simp only [Option.bind_some]
  rw [if_neg he]

theorem mul_eq {x y : Int} (x0 : 0 ≤ x) (x1 : x < 18446744073709551616) (y0 : 0 ≤ y) (y1 : y < 18446744073709551616) :
    bits_Mul64.f x y = some (x * y / 18446744073709551616, x * y % 18446744073709551616) := by
  unfold bits_Mul64.f
  rw [mul_hi x y x0 x1 y0 y1, u64w]

/-- The tick of the number i, or none up to the last one. -/
def nth (F S L i : Int) : Int × Int := if 18446744073709551615 < i then (0, 10) else if 18446744073709551615 < i / L * F + (S + i % L) then (0, 10) else (i / L * F + (S + i % L), 0)
theorem nth_parts {F S L i : Int} (o : Ok F S L) (i0 : 0 ≤ i) : 0 ≤ i / L ∧ i / L ≤ i ∧ 0 ≤ i % L ∧ i % L < L ∧ 0 ≤ i / L * F := by
  have ⟨f0, s0, l1, fit⟩ := o
  have l0 : 0 < L := by omega
  have q0 : 0 ≤ i / L := Int.ediv_nonneg i0 (by omega)
  exact ⟨q0, Int.ediv_le_self L i0, Int.emod_nonneg i (Int.ne_of_gt l0), Int.emod_lt_of_pos i l0, Int.mul_nonneg q0 (by omega)⟩

theorem nth_eq {F S L t k : Int} (o : Ok F S L) (t0 : 0 ≤ t) (k0 : 0 ≤ k) (ht : t < 18446744073709551616) (hk : k < 18446744073709551616) (hF : F < 18446744073709551616) (hm : tick_May.f S L F = some 0) :
    tick_Nth.f t k F S L = some (nth F S L (cnt t F S L + k)) := by
  have ⟨f0, s0, l1, fit⟩ := o
  have ⟨c0, c1⟩ := cnt_bd o t0
  unfold tick_Nth.f nth
  rw [hm]
  simp only [Option.bind_some]
  rw [if_pos trivial, below_eq o t0 ht hF]
  simp only [Option.bind_some]
  rw [add_eq c0 k0 (by omega) hk]
  have i0 : 0 ≤ cnt t F S L + k := by omega
  generalize cnt t F S L + k = i at *
  obtain ⟨q0, q1, r0, r1, z0⟩ := nth_parts o i0
  by_cases h : 18446744073709551615 < i
  · rw [if_pos h, if_pos h]; simp
  rw [if_neg h, if_neg h]
  simp only [Option.bind_some]
  have l0 : L ≠ 0 := by omega
  rw [if_pos trivial, if_neg l0, tdiv_pos i0, tmod_pos i0, u64in (i / L) q0 (by omega), mul_eq q0 (by omega) (by omega) hF]
  simp only [Option.bind_some]
  generalize i / L * F = z at *
  by_cases h2 : z / 18446744073709551616 > 0
  · rw [if_pos h2, if_pos (by omega)]
  rw [if_neg h2, u64in (S + i % L) (by omega) (by omega), Int.emod_eq_of_lt z0 (by omega), add_eq z0 (by omega) (by omega) (by omega)]
  by_cases h3 : 18446744073709551615 < z + (S + i % L)
  · rw [if_pos h3, if_pos h3]; simp
  · rw [if_neg h3, if_neg h3]; simp
theorem nth_no {F S L t k e : Int} (he : e ≠ 0) (hm : tick_May.f S L F = some e) : tick_Nth.f t k F S L = some (0, e) := by
  unfold tick_Nth.f
  rw [hm]
  simp only [Option.bind_some]
  rw [if_neg he]

theorem TickFinds : rotalaw01_TickFinds.Pure := by
  intro t F S L k wt wF wS wL wk
  obtain ⟨t0, ht⟩ := u64b wt
  obtain ⟨f0, hF⟩ := u64b wF
  obtain ⟨s0, hS⟩ := u64b wS
  obtain ⟨l0, hL⟩ := u64b wL
  obtain ⟨k0, hk⟩ := u64b wk
  unfold rotalaw01_TickFinds.f
  rw [lives_eq]
  simp only [Option.bind_some, if_true]
  rcases may_cases f0 s0 l0 hF with ⟨o, hm⟩ | ⟨e, he, hm⟩
  · have ⟨f1, s1, l1, fit⟩ := o
    have ⟨c0, c1⟩ := cnt_bd o t0
    rw [nth_eq o t0 k0 ht hk hF hm]
    obtain ⟨q0, q1, r0, r1, z0⟩ := nth_parts o (i := cnt t F S L + k) (by omega)
    have ⟨a1, a2⟩ := at_nth o (cnt t F S L + k)
    unfold nth
    by_cases h1 : 18446744073709551615 < cnt t F S L + k
    · rw [if_pos h1]; simp
    rw [if_neg h1]
    by_cases h2 : 18446744073709551615 < (cnt t F S L + k) / L * F + (S + (cnt t F S L + k) % L)
    · rw [if_pos h2]; simp
    rw [if_neg h2]
    simp only [Option.bind_some, if_true]
    have u0 : 0 ≤ (cnt t F S L + k) / L * F + (S + (cnt t F S L + k) % L) := by omega
    generalize (cnt t F S L + k) / L * F + (S + (cnt t F S L + k) % L) = u at *
    have hu : ¬ u < t := by
      intro h
      have st := cnt_step (t := u) o
      rw [a2] at st
      simp only [if_true] at st
      have := cnt_mono o (t := u + 1) (u := t) (by omega)
      omega
    rw [if_neg hu, u64in (u - t) (by omega) (by omega), count_eq o t0 (by omega) ht (by omega) hF hm, left_eq o u0 hF hm, if_pos a2]
    have i := ins_true.1 a2
    by_cases h3 : u - t = 0
    · obtain rfl : u = t := by omega
      rw [if_pos h3]
      simp only [Option.bind_some, if_true]
      rw [if_pos (by omega)]
      simp; omega
    · have e : t + (u - t) = u := by omega
      rw [if_neg h3, e, if_neg (by omega), a1]
      simp only [Option.bind_some, if_true]
      rw [if_pos (by omega)]
      simp; omega
  · rw [nth_no he hm, hm]
    simp [he]
end Go.Proofs.Ytafgilnjggindaa.Pure
