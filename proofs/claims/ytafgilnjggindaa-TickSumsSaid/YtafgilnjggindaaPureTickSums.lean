/- Add and Up of any two numbers of ticks answer as the document's reference does: no condition. -/
import Derived.Test.YtafgilnjggindaaPTickSumsx
import Derived.Test.YtafgilnjggindaaTk
set_option linter.unusedVariables false
set_option linter.unusedSimpArgs false
namespace Go.Proofs.Ytafgilnjggindaa.Pure
open Go.RowKit Go.Proofs.Ytafgilnjggindaa.PTickSums Go.Proofs.YtafgilnjggindaaW.PrintWords Go.Proofs.YtafgilnjggindaaW.PrintLast Go.Proofs.Ytafgilnjggindaa.Tk

theorem lives_eq : rotalaw01_lives.f = some true := by
  simp [rotalaw01_lives.f, tick_Add.f]

theorem add_eq {a b : Int} (a0 : 0 ≤ a) (b0 : 0 ≤ b) (ha : a < 18446744073709551616) (hb : b < 18446744073709551616) :
    tick_Add.f a b = if 18446744073709551615 < a + b then some (0, 10) else some (a + b, 0) := by
  unfold tick_Add.f
  rw [if_pos a0, if_pos b0]
  by_cases h : 18446744073709551615 < a + b
  · rw [if_pos h, if_pos (by omega)]
  · rw [if_neg h, if_neg (by omega), Int.emod_eq_of_lt (by omega) (by omega)]

theorem refadd_eq {a b : Int} (a0 : 0 ≤ a) (b0 : 0 ≤ b) (ha : a < 18446744073709551616) (hb : b < 18446744073709551616) :
    rotaref01_Add.f a b = if 18446744073709551615 < a + b then some (0, 10) else some (a + b, 0) := by
  unfold rotaref01_Add.f
  rw [u64in (18446744073709551615 - a) (by omega) (by omega)]
  by_cases h : 18446744073709551615 < a + b
  · rw [if_pos h, if_pos (by omega)]
  · rw [if_neg h, if_neg (by omega), u64in (a + b) (by omega) (by omega)]

theorem TickSums : rotalaw01_TickSums.Pure := by
  intro a b wa wb
  obtain ⟨a0, ha⟩ := u64b wa
  obtain ⟨b0, hb⟩ := u64b wb
  unfold rotalaw01_TickSums.f
  have e : rotaref01_Up.f a b = tick_Up.f a b := rfl
  rw [add_eq a0 b0 ha hb, refadd_eq a0 b0 ha hb, e, lives_eq]
  have u : ∃ r, tick_Up.f a b = some r := by
    unfold tick_Up.f
    split
    · exact ⟨_, rfl⟩
    · split <;> exact ⟨_, rfl⟩
  obtain ⟨r, hr⟩ := u
  rw [hr]
  by_cases h : 18446744073709551615 < a + b
  · rw [if_pos h]; simp
  · rw [if_neg h]; simp
end Go.Proofs.Ytafgilnjggindaa.Pure
