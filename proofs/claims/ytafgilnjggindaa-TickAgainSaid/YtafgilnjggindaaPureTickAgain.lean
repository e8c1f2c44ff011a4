/- Place and turn make the tick again; Next of its own place is itself, and Next of a place has that place, less than a frame on: no condition. -/
import Derived.Test.YtafgilnjggindaaPTickAgainx
import Derived.Test.YtafgilnjggindaaTk
set_option linter.unusedVariables false
set_option linter.unusedSimpArgs false
namespace Go.Proofs.Ytafgilnjggindaa.Pure
open Go.RowKit Go.Proofs.Ytafgilnjggindaa.PTickAgain Go.Proofs.YtafgilnjggindaaW.PrintWords Go.Proofs.YtafgilnjggindaaW.PrintLast Go.Proofs.Ytafgilnjggindaa.Tk

theorem lives_eq : rotalaw01_lives.f = some true := by
  simp [rotalaw01_lives.f, tick_Add.f]

theorem add_eq {a b : Int} (a0 : 0 ≤ a) (b0 : 0 ≤ b) (ha : a < 18446744073709551616) (hb : b < 18446744073709551616) :
    tick_Add.f a b = if 18446744073709551615 < a + b then some (0, 10) else some (a + b, 0) := by
  unfold tick_Add.f
  rw [if_pos a0, if_pos b0]
  by_cases h : 18446744073709551615 < a + b
  · rw [if_pos h, if_pos (by omega)]
  · rw [if_neg h, if_neg (by omega), Int.emod_eq_of_lt (by omega) (by omega)]

theorem next_eq {t F p : Int} (t0 : 0 ≤ t) (f0 : 0 < F) (p0 : 0 ≤ p) (hp : p < F) (ht : t < 18446744073709551616) (hF : F < 18446744073709551616) :
    ∃ d, 0 ≤ d ∧ d < F ∧ (t + d) % F = p ∧ (p = t % F → d = 0) ∧ tick_Next.f t F p = if 18446744073709551615 < t + d then some (0, 10) else some (t + d, 0) := by
  unfold tick_Next.f
  have r0 := Int.emod_nonneg t (Int.ne_of_gt f0)
  have r1 := Int.emod_lt_of_pos t f0
  have d := Int.emod_add_mul_ediv t F
  rw [if_neg (Int.ne_of_gt f0), if_neg (by omega), tmod_pos t0]
  by_cases h3 : p ≥ t % F
  · refine ⟨p - t % F, by omega, by omega, ?_, by omega, ?_⟩
    · have e : t + (p - t % F) = p + F * (t / F) := by omega
      rw [e, Int.add_mul_emod_self_left, Int.emod_eq_of_lt p0 hp]
    · rw [if_pos h3, u64in (p - t % F) (by omega) (by omega), add_eq t0 (by omega) ht (by omega)]
      split <;> rfl
  · refine ⟨F - t % F + p, by omega, by omega, ?_, by omega, ?_⟩
    · have e : t + (F - t % F + p) = p + F * (t / F + 1) := by rw [Int.mul_add]; omega
      rw [e, Int.add_mul_emod_self_left, Int.emod_eq_of_lt p0 hp]
    · rw [if_neg h3, u64in (F - t % F) (by omega) (by omega), u64in (F - t % F + p) (by omega) (by omega), add_eq t0 (by omega) ht (by omega)]
      split <;> rfl
theorem TickAgain : rotalaw01_TickAgain.Pure := by
  intro t F p wt wF wp
  obtain ⟨t0, ht⟩ := u64b wt
  obtain ⟨f0, hF⟩ := u64b wF
  obtain ⟨p0, hp⟩ := u64b wp
  refine ⟨2, ?_⟩
  unfold rotalaw01_TickAgain.f
  rw [lives_eq]
  simp only [Option.bind_some, if_true]
  by_cases h1 : F = 0
  · subst h1; simp [tick_Place.f]
  have f1 : 0 < F := by omega
  have r0 := Int.emod_nonneg t (Int.ne_of_gt f1)
  have r1 := Int.emod_lt_of_pos t f1
  have dv := Int.emod_add_mul_ediv t F
  have q0 : 0 ≤ t / F := Int.ediv_nonneg t0 f0
  have q1 : t / F ≤ t := Int.ediv_le_self F t0
  have pe : ∀ u, 0 ≤ u → u < 18446744073709551616 → tick_Place.f u F = some (u % F, u / F, 0) := by
    intro u u0 u1
    have a0 : 0 ≤ u / F := Int.ediv_nonneg u0 f0
    have a1 : u / F ≤ u := Int.ediv_le_self F u0
    unfold tick_Place.f
    rw [if_neg h1, tmod_pos u0, tdiv_pos u0, u64in (u / F) a0 (by omega)]
  rw [pe t t0 ht]
  simp only [Option.bind_some, if_true]
  obtain ⟨d, _, _, _, dz, hn⟩ := next_eq t0 f1 r0 r1 ht hF
  obtain rfl := dz rfl
  rw [Int.add_zero, if_neg (by omega)] at hn
  rw [hn]
  simp only [Option.bind_some]
  have e : t / F * F + t % F = t := by rw [Int.mul_comm]; omega
  have z0 : 0 ≤ t / F * F := Int.mul_nonneg q0 f0
  rw [if_neg (by omega), u64in (t / F * F) z0 (by omega), u64in (t / F * F + t % F) (by omega) (by omega), if_pos e, if_pos trivial]
  have bt : (t != t) = false := by simp
  rw [bt]
  simp only [rotalaw01_TickAgain.j0]
  rw [if_neg (by decide)]
  by_cases h2 : p ≥ F
  · have hx : tick_Next.f t F p = some (0, 1) := by unfold tick_Next.f; rw [if_neg h1, if_pos h2]
    rw [hx]
    simp only [Option.bind_some]
    rw [if_neg (by decide), if_pos h2, if_pos trivial]
  · obtain ⟨d, d0, d1, dp, _, hn⟩ := next_eq t0 f1 p0 (by omega) ht hF
    rw [hn]
    by_cases h3 : 18446744073709551615 < t + d
    · rw [if_pos h3]
      simp only [Option.bind_some]
      rw [if_neg (by decide), if_neg h2]
      rfl
    · rw [if_neg h3]
      simp only [Option.bind_some]
      rw [if_pos trivial, pe (t + d) (by omega) (by omega)]
      simp only [Option.bind_some]
      rw [if_pos dp, if_pos (by omega), u64in (t + d - t) (by omega) (by omega)]
      simp; omega
end Go.Proofs.Ytafgilnjggindaa.Pure
