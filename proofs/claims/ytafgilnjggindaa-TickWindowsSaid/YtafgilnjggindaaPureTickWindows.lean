/- May and Left of any window answer as the document's reference does: no condition. -/
import Derived.Test.YtafgilnjggindaaPTickWindowsx
import Derived.Test.YtafgilnjggindaaTk
set_option linter.unusedVariables false
set_option linter.unusedSimpArgs false
namespace Go.Proofs.Ytafgilnjggindaa.Pure
open Go.RowKit Go.Proofs.Ytafgilnjggindaa.PTickWindows Go.Proofs.YtafgilnjggindaaW.PrintWords Go.Proofs.YtafgilnjggindaaW.PrintLast Go.Proofs.Ytafgilnjggindaa.Tk

theorem lives_eq : rotalaw01_lives.f = some true := by
  simp [rotalaw01_lives.f, tick_Add.f]

theorem may_cases {F S L : Int} (f0 : 0 ≤ F) (s0 : 0 ≤ S) (l0 : 0 ≤ L) (hF : F < 18446744073709551616) :
    (Ok F S L ∧ tick_May.f S L F = some 0) ∨ (∃ e, e ≠ 0 ∧ tick_May.f S L F = some e) := by
  unfold tick_May.f
  by_cases h1 : F = 0
  · exact .inr ⟨11, by decide, by rw [if_pos h1]⟩
  by_cases h2 : L < 1
  · exact .inr ⟨1, by decide, by rw [if_neg h1, if_pos h2]⟩
  by_cases h3 : S ≥ F
  · exact .inr ⟨1, by decide, by rw [if_neg h1, if_neg h2, if_pos h3]⟩
  rw [u64in (F - S) (by omega) (by omega)]
  by_cases h4 : L > F - S
  · exact .inr ⟨1, by decide, by rw [if_neg h1, if_neg h2, if_neg h3, if_pos h4]⟩
  · exact .inl ⟨⟨by omega, by omega, by omega, by omega⟩, by rw [if_neg h1, if_neg h2, if_neg h3, if_neg h4]⟩

theorem refmay_eq {F S L : Int} (l0 : 0 ≤ L) : rotaref01_May.f S L F = tick_May.f S L F := by
  unfold rotaref01_May.f tick_May.f
  have : (L = 0) = (L < 1) := by apply propext; omega
  simp only [this]

theorem inside_eq {F S L t : Int} (o : Ok F S L) (t0 : 0 ≤ t) (hF : F < 18446744073709551616) : tick_inside.f t F S L = some (ins t F S L) := by
  have ⟨f0, s0, l1, fit⟩ := o
  have r0 := Int.emod_nonneg t (Int.ne_of_gt f0)
  have r1 := Int.emod_lt_of_pos t f0
  unfold tick_inside.f ins
  rw [if_neg (Int.ne_of_gt f0), tmod_pos t0]
  by_cases h : t % F ≥ S
  · rw [if_pos h, u64in _ (by omega) (by omega)]; simp [h]
  · rw [if_neg h]; simp only [ge_iff_le] at h; simp [h]

theorem refinside_eq {F S L t : Int} (o : Ok F S L) (t0 : 0 ≤ t) (hF : F < 18446744073709551616) : rotaref01_Inside.f t F S L = some (ins t F S L) := by
  have ⟨f0, s0, l1, fit⟩ := o
  have r0 := Int.emod_nonneg t (Int.ne_of_gt f0)
  have r1 := Int.emod_lt_of_pos t f0
  unfold rotaref01_Inside.f ins
  rw [if_neg (Int.ne_of_gt f0), tmod_pos t0]
  by_cases h : t % F ≥ S
  · rw [if_pos h, u64in _ (by omega) (by omega)]; simp [h]
  · rw [if_neg h]; simp only [ge_iff_le] at h; simp [h]

theorem left_eq {F S L t : Int} (o : Ok F S L) (t0 : 0 ≤ t) (hF : F < 18446744073709551616) (hm : tick_May.f S L F = some 0) :
    tick_Left.f t F S L = some (if ins t F S L = true then S + L - t % F else 0, 0) := by
  have ⟨f0, s0, l1, fit⟩ := o
  have r0 := Int.emod_nonneg t (Int.ne_of_gt f0)
  have r1 := Int.emod_lt_of_pos t f0
  unfold tick_Left.f
  rw [hm]
  simp only [Option.bind_some]
  rw [if_pos trivial, inside_eq o t0 hF]
  simp only [Option.bind_some]
  by_cases h : ins t F S L = true
  · have h' := ins_true.1 h
    rw [if_pos h, if_pos h, if_neg (Int.ne_of_gt f0), tmod_pos t0, u64in (S + L) (by omega) (by omega), u64in _ (by omega) (by omega)]
  · rw [if_neg h, if_neg h]
theorem left_no {F S L t e : Int} (he : e ≠ 0) (hm : tick_May.f S L F = some e) : tick_Left.f t F S L = some (0, e) := by
  unfold tick_Left.f
  rw [hm]
  simp only [Option.bind_some]
  rw [if_neg he]

theorem refleft_eq {F S L t : Int} (o : Ok F S L) (t0 : 0 ≤ t) (hF : F < 18446744073709551616) (hm : rotaref01_May.f S L F = some 0) :
    rotaref01_Left.f t F S L = some (if ins t F S L = true then S + L - t % F else 0, 0) := by
  have ⟨f0, s0, l1, fit⟩ := o
  have r0 := Int.emod_nonneg t (Int.ne_of_gt f0)
  have r1 := Int.emod_lt_of_pos t f0
  unfold rotaref01_Left.f
  rw [hm]
  simp only [Option.bind_some]
  rw [if_pos trivial, refinside_eq o t0 hF]
  simp only [Option.bind_some]
  by_cases h : ins t F S L = true
  · have h' := ins_true.1 h
    rw [if_pos h, if_pos h, if_neg (Int.ne_of_gt f0), tmod_pos t0, u64in (t % F - S) (by omega) (by omega), u64in _ (by omega) (by omega)]
    congr 2; omega
  · rw [if_neg h, if_neg h]
theorem refleft_no {F S L t e : Int} (he : e ≠ 0) (hm : rotaref01_May.f S L F = some e) : rotaref01_Left.f t F S L = some (0, e) := by
  unfold rotaref01_Left.f
  rw [hm]
  simp only [Option.bind_some]
  rw [if_neg he]

theorem TickWindows : rotalaw01_TickWindows.Pure := by
  intro t F S L wt wF wS wL
  obtain ⟨t0, ht⟩ := u64b wt
  obtain ⟨f0, hF⟩ := u64b wF
  obtain ⟨s0, hS⟩ := u64b wS
  obtain ⟨l0, hL⟩ := u64b wL
  unfold rotalaw01_TickWindows.f
  rw [lives_eq, refmay_eq l0]
  rcases may_cases f0 s0 l0 hF with ⟨o, hm⟩ | ⟨e, he, hm⟩
  · rw [left_eq o t0 hF hm, refleft_eq o t0 hF ((refmay_eq l0).trans hm), hm]
    simp
  · rw [left_no he hm, refleft_no he ((refmay_eq l0).trans hm), hm]
    simp
end Go.Proofs.Ytafgilnjggindaa.Pure
