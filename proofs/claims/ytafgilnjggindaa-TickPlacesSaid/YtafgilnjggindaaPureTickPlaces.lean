/- Place and Next of any tick, frame and place answer as the document's reference does: no condition. -/
import Derived.Test.YtafgilnjggindaaPTickPlacesx
import Derived.Test.YtafgilnjggindaaTk
set_option linter.unusedVariables false
set_option linter.unusedSimpArgs false
namespace Go.Proofs.Ytafgilnjggindaa.Pure
open Go.RowKit Go.Proofs.Ytafgilnjggindaa.PTickPlaces Go.Proofs.YtafgilnjggindaaW.PrintWords Go.Proofs.YtafgilnjggindaaW.PrintLast Go.Proofs.Ytafgilnjggindaa.Tk

theorem lives_eq : rotalaw01_lives.f = some true := by
  simp [rotalaw01_lives.f, tick_Add.f]

theorem add_eq {a b : Int} (a0 : 0 ≤ a) (b0 : 0 ≤ b) (ha : a < 18446744073709551616) (hb : b < 18446744073709551616) :
    tick_Add.f a b = if 18446744073709551615 < a + b then some (0, 10) else some (a + b, 0) := by
  unfold tick_Add.f
  rw [if_pos a0, if_pos b0]
  by_cases h : 18446744073709551615 < a + b
  · rw [if_pos h, if_pos (by omega)]
  · rw [if_neg h, if_neg (by omega), Int.emod_eq_of_lt (by omega) (by omega)]

theorem refadd_eq {a b : Int} (a0 : 0 ≤ a) (b0 : 0 ≤ b) (ha : a < 18446744073709551616) (hb : b < 18446744073709551616) :
    rotaref01_Add.f a b = if 18446744073709551615 < a + b then some (0, 10) else some (a + b, 0) := by
  unfold rotaref01_Add.f
  rw [u64in (18446744073709551615 - a) (by omega) (by omega)]
  by_cases h : 18446744073709551615 < a + b
  · rw [if_pos h, if_pos (by omega)]
  · rw [if_neg h, if_neg (by omega), u64in (a + b) (by omega) (by omega)]

theorem next_same {t F p : Int} (t0 : 0 ≤ t) (f0 : 0 ≤ F) (p0 : 0 ≤ p) (ht : t < 18446744073709551616) (hF : F < 18446744073709551616) :
    rotaref01_Next.f t F p = tick_Next.f t F p ∧ ∃ r, tick_Next.f t F p = some r := by
  unfold rotaref01_Next.f tick_Next.f
  by_cases h1 : F = 0
  · rw [if_pos h1, if_pos h1]; exact ⟨rfl, _, rfl⟩
  rw [if_neg h1, if_neg h1]
  by_cases h2 : p ≥ F
  · rw [if_pos h2, if_pos h2]; exact ⟨rfl, _, rfl⟩
  rw [if_neg h2, if_neg h2, tmod_pos t0]
  have r0 := Int.emod_nonneg t h1
  have r1 := Int.emod_lt_of_pos t (show 0 < F by omega)
  by_cases h3 : p ≥ t % F
  · rw [if_pos h3, if_pos h3, u64in (p - t % F) (by omega) (by omega), add_eq t0 (by omega) ht (by omega), refadd_eq t0 (by omega) ht (by omega)]
    refine ⟨rfl, ?_⟩
    split <;> exact ⟨_, rfl⟩
  · rw [if_neg h3, if_neg h3, u64in (t % F - p) (by omega) (by omega), u64in (F - (t % F - p)) (by omega) (by omega), u64in (F - t % F) (by omega) (by omega), u64in (F - t % F + p) (by omega) (by omega)]
    have e : F - (t % F - p) = F - t % F + p := by omega
    rw [e, add_eq t0 (by omega) ht (by omega), refadd_eq t0 (by omega) ht (by omega)]
    refine ⟨rfl, ?_⟩
    split <;> exact ⟨_, rfl⟩
theorem TickPlaces : rotalaw01_TickPlaces.Pure := by
  intro t F p wt wF wp
  obtain ⟨t0, ht⟩ := u64b wt
  obtain ⟨f0, hF⟩ := u64b wF
  obtain ⟨p0, hp⟩ := u64b wp
  unfold rotalaw01_TickPlaces.f
  have e : rotaref01_Place.f t F = tick_Place.f t F := rfl
  obtain ⟨e2, r, hr⟩ := next_same t0 f0 p0 ht hF
  have u : ∃ r, tick_Place.f t F = some r := by
    unfold tick_Place.f
    split <;> exact ⟨_, rfl⟩
  obtain ⟨q, hq⟩ := u
  rw [e, e2, hr, hq, lives_eq]
  simp
end Go.Proofs.Ytafgilnjggindaa.Pure
