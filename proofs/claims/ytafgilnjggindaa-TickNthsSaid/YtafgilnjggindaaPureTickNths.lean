/- Nth of any tick, number and window answers as the document's reference does: no condition. -/
import Derived.Test.YtafgilnjggindaaPTickNthsx
import Derived.Test.YtafgilnjggindaaTk
set_option linter.unusedVariables false
set_option linter.unusedSimpArgs false
namespace Go.Proofs.Ytafgilnjggindaa.Pure
open Go.RowKit Go.Proofs.Ytafgilnjggindaa.PTickNths Go.Proofs.YtafgilnjggindaaW.PrintWords Go.Proofs.YtafgilnjggindaaW.PrintLast Go.Proofs.Ytafgilnjggindaa.Tk

theorem lives_eq : rotalaw01_lives.f = some true := by
  simp [rotalaw01_lives.f, tick_Add.f]

theorem add_eq {a b : Int} (a0 : 0 ≤ a) (b0 : 0 ≤ b) (ha : a < 18446744073709551616) (hb : b < 18446744073709551616) :
    tick_Add.f a b = if 18446744073709551615 < a + b then some (0, 10) else some (a + b, 0) := by
  unfold tick_Add.f
  rw [if_pos a0, if_pos b0]
  by_cases h : 18446744073709551615 < a + b
  · rw [if_pos h, if_pos (by omega)]
  · rw [if_neg h, if_neg (by omega), Int.emod_eq_of_lt (by omega) (by omega)]

theorem refadd_eq {a b : Int} (a0 : 0 ≤ a) (b0 : 0 ≤ b) (ha : a < 18446744073709551616) (hb : b < 18446744073709551616) :
    rotaref01_Add.f a b = if 18446744073709551615 < a + b then some (0, 10) else some (a + b, 0) := by
  unfold rotaref01_Add.f
  rw [u64in (18446744073709551615 - a) (by omega) (by omega)]
  by_cases h : 18446744073709551615 < a + b
  · rw [if_pos h, if_pos (by omega)]
  · rw [if_neg h, if_neg (by omega), u64in (a + b) (by omega) (by omega)]

theorem may_cases {F S L : Int} (f0 : 0 ≤ F) (s0 : 0 ≤ S) (l0 : 0 ≤ L) (hF : F < 18446744073709551616) :
    (Ok F S L ∧ tick_May.f S L F = some 0) ∨ (∃ e, e ≠ 0 ∧ tick_May.f S L F = some e) := by
  unfold tick_May.f
  by_cases h1 : F = 0
  · exact .inr ⟨11, by decide, by rw [if_pos h1]⟩
  by_cases h2 : L < 1
  · exact .inr ⟨1, by decide, by rw [if_neg h1, if_pos h2]⟩
  by_cases h3 : S ≥ F
  · exact .inr ⟨1, by decide, by rw [if_neg h1, if_neg h2, if_pos h3]⟩
  rw [u64in (F - S) (by omega) (by omega)]
  by_cases h4 : L > F - S
  · exact .inr ⟨1, by decide, by rw [if_neg h1, if_neg h2, if_neg h3, if_pos h4]⟩
  · exact .inl ⟨⟨by omega, by omega, by omega, by omega⟩, by rw [if_neg h1, if_neg h2, if_neg h3, if_neg h4]⟩

theorem refmay_eq {F S L : Int} (l0 : 0 ≤ L) : rotaref01_May.f S L F = tick_May.f S L F := by
  unfold rotaref01_May.f tick_May.f
  have : (L = 0) = (L < 1) := by apply propext; omega
  simp only [this]

theorem below_eq {F S L t : Int} (o : Ok F S L) (t0 : 0 ≤ t) (ht : t < 18446744073709551616) (hF : F < 18446744073709551616) : tick_below.f t F S L = some (cnt t F S L) := by
  have ⟨f0, s0, l1, fit⟩ := o
  have r0 := Int.emod_nonneg t (Int.ne_of_gt f0)
  have r1 := Int.emod_lt_of_pos t f0
  have ⟨b0, b1⟩ := base_bd o t0
  have ⟨c0, c1⟩ := cnt_bd o t0
  have q0 : 0 ≤ t / F := Int.ediv_nonneg t0 (by omega)
  have q1 : t / F ≤ t := Int.ediv_le_self F t0
  unfold tick_below.f
  rw [if_neg (Int.ne_of_gt f0), tmod_pos t0, tdiv_pos t0, u64in (t / F) q0 (by omega), u64in (t / F * L) (by omega) (by omega)]
  unfold cnt at c0 c1 ⊢
  by_cases h : t % F > S
  · rw [if_pos h, if_neg (by omega)]
    rw [if_neg (by omega)] at c0 c1
    rw [u64in (t % F - S) (by omega) (by omega)]
    by_cases h2 : L ≤ t % F - S
    · rw [if_pos h2] at c0 c1 ⊢
      have e : mn (t % F - S) L = L := by unfold mn; omega
      rw [e, u64in _ (by omega) (by omega)]
    · rw [if_neg h2] at c0 c1 ⊢
      have e : mn (t % F - S) L = t % F - S := by unfold mn; omega
      rw [e, u64in _ (by omega) (by omega)]
  · rw [if_neg h, if_pos (by omega), Int.add_zero]

theorem refbefore_eq {F S L t : Int} (o : Ok F S L) (t0 : 0 ≤ t) (ht : t < 18446744073709551616) (hF : F < 18446744073709551616) : rotaref01_before.f t F S L = some (cnt t F S L) := by
  have ⟨f0, s0, l1, fit⟩ := o
  have r0 := Int.emod_nonneg t (Int.ne_of_gt f0)
  have r1 := Int.emod_lt_of_pos t f0
  have ⟨b0, b1⟩ := base_bd o t0
  have ⟨c0, c1⟩ := cnt_bd o t0
  have q0 : 0 ≤ t / F := Int.ediv_nonneg t0 (by omega)
  have q1 : t / F ≤ t := Int.ediv_le_self F t0
  unfold rotaref01_before.f
  rw [if_neg (Int.ne_of_gt f0), tmod_pos t0, tdiv_pos t0, u64in (t / F) q0 (by omega), u64in (t / F * L) (by omega) (by omega)]
  unfold cnt at c0 c1 ⊢
  by_cases h : t % F ≤ S
  · rw [if_pos h, if_pos h, Int.add_zero]
  · rw [if_neg h] at c0 c1 ⊢
    rw [if_neg h, u64in (t % F - S) (by omega) (by omega)]
    by_cases h2 : L ≤ t % F - S
    · rw [if_pos h2] at c0 c1 ⊢
      rw [if_pos h2, u64in _ (by omega) (by omega)]
    · rw [if_neg h2] at c0 c1 ⊢
      rw [if_neg (by omega), u64in _ (by omega) (by omega)]

theorem mul_eq {x y : Int} (x0 : 0 ≤ x) (x1 : x < 18446744073709551616) (y0 : 0 ≤ y) (y1 : y < 18446744073709551616) :
    bits_Mul64.f x y = some (x * y / 18446744073709551616, x * y % 18446744073709551616) := by
  unfold bits_Mul64.f
  rw [mul_hi x y x0 x1 y0 y1, u64w]

/-- The tick of the number i, or none up to the last one. -/
def nth (F S L i : Int) : Int × Int := if 18446744073709551615 < i then (0, 10) else if 18446744073709551615 < i / L * F + (S + i % L) then (0, 10) else (i / L * F + (S + i % L), 0)
theorem nth_parts {F S L i : Int} (o : Ok F S L) (i0 : 0 ≤ i) : 0 ≤ i / L ∧ i / L ≤ i ∧ 0 ≤ i % L ∧ i % L < L ∧ 0 ≤ i / L * F := by
  have ⟨f0, s0, l1, fit⟩ := o
  have l0 : 0 < L := by omega
  have q0 : 0 ≤ i / L := Int.ediv_nonneg i0 (by omega)
  exact ⟨q0, Int.ediv_le_self L i0, Int.emod_nonneg i (Int.ne_of_gt l0), Int.emod_lt_of_pos i l0, Int.mul_nonneg q0 (by omega)⟩

theorem nth_eq {F S L t k : Int} (o : Ok F S L) (t0 : 0 ≤ t) (k0 : 0 ≤ k) (ht : t < 18446744073709551616) (hk : k < 18446744073709551616) (hF : F < 18446744073709551616) (hm : tick_May.f S L F = some 0) :
    tick_Nth.f t k F S L = some (nth F S L (cnt t F S L + k)) := by
  have ⟨f0, s0, l1, fit⟩ := o
  have ⟨c0, c1⟩ := cnt_bd o t0
  unfold tick_Nth.f nth
  rw [hm]
  simp only [Option.bind_some]
  rw [if_pos trivial, below_eq o t0 ht hF]
  simp only [Option.bind_some]
  rw [add_eq c0 k0 (by omega) hk]
  have i0 : 0 ≤ cnt t F S L + k := by omega
  generalize cnt t F S L + k = i at *
  obtain ⟨q0, q1, r0, r1, z0⟩ := nth_parts o i0
  by_cases h : 18446744073709551615 < i
  · rw [if_pos h, if_pos h]; simp
  rw [if_neg h, if_neg h]
  simp only [Option.bind_some]
  have l0 : L ≠ 0 := by omega
  rw [if_pos trivial, if_neg l0, tdiv_pos i0, tmod_pos i0, u64in (i / L) q0 (by omega), mul_eq q0 (by omega) (by omega) hF]
  simp only [Option.bind_some]
  generalize i / L * F = z at *
  by_cases h2 : z / 18446744073709551616 > 0
  · rw [if_pos h2, if_pos (by omega)]
  rw [if_neg h2, u64in (S + i % L) (by omega) (by omega), Int.emod_eq_of_lt z0 (by omega), add_eq z0 (by omega) (by omega) (by omega)]
  by_cases h3 : 18446744073709551615 < z + (S + i % L)
  · rw [if_pos h3, if_pos h3]; simp
  · rw [if_neg h3, if_neg h3]; simp
theorem nth_no {F S L t k e : Int} (he : e ≠ 0) (hm : tick_May.f S L F = some e) : tick_Nth.f t k F S L = some (0, e) := by
  unfold tick_Nth.f
  rw [hm]
  simp only [Option.bind_some]
  rw [if_neg he]

theorem refnth_eq {F S L t k : Int} (o : Ok F S L) (t0 : 0 ≤ t) (k0 : 0 ≤ k) (ht : t < 18446744073709551616) (hk : k < 18446744073709551616) (hF : F < 18446744073709551616) (hm : rotaref01_May.f S L F = some 0) :
    rotaref01_Nth.f t k F S L = some (nth F S L (cnt t F S L + k)) := by
  have ⟨f0, s0, l1, fit⟩ := o
  have ⟨c0, c1⟩ := cnt_bd o t0
  unfold rotaref01_Nth.f nth
  rw [hm]
  simp only [Option.bind_some]
  rw [if_pos trivial, refbefore_eq o t0 ht hF]
  simp only [Option.bind_some]
  rw [refadd_eq c0 k0 (by omega) hk]
  have i0 : 0 ≤ cnt t F S L + k := by omega
  generalize cnt t F S L + k = i at *
  obtain ⟨q0, q1, r0, r1, z0⟩ := nth_parts o i0
  by_cases h : 18446744073709551615 < i
  · rw [if_pos h, if_pos h]; simp
  rw [if_neg h, if_neg h]
  simp only [Option.bind_some]
  have l0 : L ≠ 0 := by omega
  rw [if_pos trivial, if_neg l0, if_neg (Int.ne_of_gt f0), tdiv_pos i0, tmod_pos i0, u64in (i / L) q0 (by omega), tdiv_pos (show (0 : Int) ≤ 18446744073709551615 by decide)]
  have d0 : (0 : Int) ≤ 18446744073709551615 / F := Int.ediv_nonneg (by decide) (by omega)
  have d1 : (18446744073709551615 : Int) / F ≤ 18446744073709551615 := Int.ediv_le_self F (by decide)
  rw [u64in (18446744073709551615 / F) d0 (by omega)]
  by_cases h2 : i / L > 18446744073709551615 / F
  · have h2' : 18446744073709551615 < i / L * F := (Int.ediv_lt_iff_lt_mul f0).1 h2
    rw [if_pos h2, if_pos (by omega)]
  have h2' : i / L * F ≤ 18446744073709551615 := (Int.le_ediv_iff_mul_le f0).1 (by omega)
  rw [if_neg h2]
  generalize i / L * F = z at *
  rw [u64in z z0 (by omega), refadd_eq z0 s0 (by omega) (by omega)]
  by_cases h3 : 18446744073709551615 < z + S
  · rw [if_pos h3, if_pos (by omega)]; simp
  rw [if_neg h3]
  simp only [Option.bind_some]
  rw [if_pos trivial, refadd_eq (by omega) r0 (by omega) (by omega)]
  by_cases h4 : 18446744073709551615 < z + S + i % L
  · rw [if_pos h4, if_pos (by omega)]; simp
  · rw [if_neg h4, if_neg (by omega)]; simp only [Option.bind_some]
    congr 2; omega
theorem refnth_no {F S L t k e : Int} (he : e ≠ 0) (hm : rotaref01_May.f S L F = some e) : rotaref01_Nth.f t k F S L = some (0, e) := by
  unfold rotaref01_Nth.f
  rw [hm]
  simp only [Option.bind_some]
  rw [if_neg he]

theorem TickNths : rotalaw01_TickNths.Pure := by
  intro t F S L k wt wF wS wL wk
  obtain ⟨t0, ht⟩ := u64b wt
  obtain ⟨f0, hF⟩ := u64b wF
  obtain ⟨s0, hS⟩ := u64b wS
  obtain ⟨l0, hL⟩ := u64b wL
  obtain ⟨k0, hk⟩ := u64b wk
  unfold rotalaw01_TickNths.f
  rw [lives_eq]
  rcases may_cases f0 s0 l0 hF with ⟨o, hm⟩ | ⟨e, he, hm⟩
  · rw [nth_eq o t0 k0 ht hk hF hm, refnth_eq o t0 k0 ht hk hF ((refmay_eq l0).trans hm)]
    simp
  · rw [nth_no he hm, refnth_no he ((refmay_eq l0).trans hm)]
    simp
end Go.Proofs.Ytafgilnjggindaa.Pure
