/- Count of n ticks and of the m behind them is Count of n and m: no condition. -/
import Derived.Test.YtafgilnjggindaaPTickAddsx
import Derived.Test.YtafgilnjggindaaTk
set_option linter.unusedVariables false
set_option linter.unusedSimpArgs false
namespace Go.Proofs.Ytafgilnjggindaa.Pure
open Go.RowKit Go.Proofs.Ytafgilnjggindaa.PTickAdds Go.Proofs.YtafgilnjggindaaW.PrintWords Go.Proofs.YtafgilnjggindaaW.PrintLast Go.Proofs.Ytafgilnjggindaa.Tk

theorem lives_eq : rotalaw01_lives.f = some true := by
  simp [rotalaw01_lives.f, tick_Add.f]

theorem add_eq {a b : Int} (a0 : 0 ≤ a) (b0 : 0 ≤ b) (ha : a < 18446744073709551616) (hb : b < 18446744073709551616) :
    tick_Add.f a b = if 18446744073709551615 < a + b then some (0, 10) else some (a + b, 0) := by
  unfold tick_Add.f
  rw [if_pos a0, if_pos b0]
  by_cases h : 18446744073709551615 < a + b
  · rw [if_pos h, if_pos (by omega)]
  · rw [if_neg h, if_neg (by omega), Int.emod_eq_of_lt (by omega) (by omega)]

theorem may_cases {F S L : Int} (f0 : 0 ≤ F) (s0 : 0 ≤ S) (l0 : 0 ≤ L) (hF : F < 18446744073709551616) :
    (Ok F S L ∧ tick_May.f S L F = some 0) ∨ (∃ e, e ≠ 0 ∧ tick_May.f S L F = some e) := by
  unfold tick_May.f
  by_cases h1 : F = 0
  · exact .inr ⟨11, by decide, by rw [if_pos h1]⟩
  by_cases h2 : L < 1
  · exact .inr ⟨1, by decide, by rw [if_neg h1, if_pos h2]⟩
  by_cases h3 : S ≥ F
  · exact .inr ⟨1, by decide, by rw [if_neg h1, if_neg h2, if_pos h3]⟩
  rw [u64in (F - S) (by omega) (by omega)]
  by_cases h4 : L > F - S
  · exact .inr ⟨1, by decide, by rw [if_neg h1, if_neg h2, if_neg h3, if_pos h4]⟩
  · exact .inl ⟨⟨by omega, by omega, by omega, by omega⟩, by rw [if_neg h1, if_neg h2, if_neg h3, if_neg h4]⟩

theorem inside_eq {F S L t : Int} (o : Ok F S L) (t0 : 0 ≤ t) (hF : F < 18446744073709551616) : tick_inside.f t F S L = some (ins t F S L) := by
  have ⟨f0, s0, l1, fit⟩ := o
  have r0 := Int.emod_nonneg t (Int.ne_of_gt f0)
  have r1 := Int.emod_lt_of_pos t f0
  unfold tick_inside.f ins
  rw [if_neg (Int.ne_of_gt f0), tmod_pos t0]
  by_cases h : t % F ≥ S
  · rw [if_pos h, u64in _ (by omega) (by omega)]; simp [h]
  · rw [if_neg h]; simp only [ge_iff_le] at h; simp [h]

theorem below_eq {F S L t : Int} (o : Ok F S L) (t0 : 0 ≤ t) (ht : t < 18446744073709551616) (hF : F < 18446744073709551616) : tick_below.f t F S L = some (cnt t F S L) := by
  have ⟨f0, s0, l1, fit⟩ := o
  have r0 := Int.emod_nonneg t (Int.ne_of_gt f0)
  have r1 := Int.emod_lt_of_pos t f0
  have ⟨b0, b1⟩ := base_bd o t0
  have ⟨c0, c1⟩ := cnt_bd o t0
  have q0 : 0 ≤ t / F := Int.ediv_nonneg t0 (by omega)
  have q1 : t / F ≤ t := Int.ediv_le_self F t0
  unfold tick_below.f
  rw [if_neg (Int.ne_of_gt f0), tmod_pos t0, tdiv_pos t0, u64in (t / F) q0 (by omega), u64in (t / F * L) (by omega) (by omega)]
  unfold cnt at c0 c1 ⊢
  by_cases h : t % F > S
  · rw [if_pos h, if_neg (by omega)]
    rw [if_neg (by omega)] at c0 c1
    rw [u64in (t % F - S) (by omega) (by omega)]
    by_cases h2 : L ≤ t % F - S
    · rw [if_pos h2] at c0 c1 ⊢
      have e : mn (t % F - S) L = L := by unfold mn; omega
      rw [e, u64in _ (by omega) (by omega)]
    · rw [if_neg h2] at c0 c1 ⊢
      have e : mn (t % F - S) L = t % F - S := by unfold mn; omega
      rw [e, u64in _ (by omega) (by omega)]
  · rw [if_neg h, if_pos (by omega), Int.add_zero]

theorem count_eq {F S L t n : Int} (o : Ok F S L) (t0 : 0 ≤ t) (n0 : 0 ≤ n) (ht : t < 18446744073709551616) (hn : n < 18446744073709551616) (hF : F < 18446744073709551616) (hm : tick_May.f S L F = some 0) :
    tick_Count.f t n F S L = if n = 0 then some (0, 0) else if 18446744073709551616 < t + n then some (0, 10) else some (cnt (t + n) F S L - cnt t F S L, 0) := by
  unfold tick_Count.f
  rw [hm]
  simp only [Option.bind_some]
  rw [if_pos trivial]
  by_cases h : n = 0
  · rw [if_pos h, if_pos h]
  rw [if_neg h, if_neg h, u64in (n - 1) (by omega) (by omega), add_eq (by omega) (by omega) (by omega) (by omega)]
  by_cases h2 : 18446744073709551616 < t + n
  · rw [if_pos h2, if_pos (by omega)]
    simp
  rw [if_neg h2, if_neg (by omega)]
  simp only [Option.bind_some]
  rw [if_pos trivial, below_eq o (by omega) (by omega) hF, below_eq o t0 ht hF, inside_eq o (by omega) hF]
  simp only [Option.bind_some]
  have st := cnt_step (t := t + (n - 1)) o
  have e : t + (n - 1) + 1 = t + n := by omega
  rw [e] at st
  have m := cnt_mono o (t := t) (u := t + (n - 1)) (by omega)
  rw [st, u64in (cnt (t + (n - 1)) F S L - cnt t F S L) (by omega) (by omega)]
  by_cases h3 : ins (t + (n - 1)) F S L = true
  · rw [if_pos h3, if_pos h3, u64in _ (by omega) (by omega)]
    congr 2; omega
  · rw [if_neg h3, if_neg h3, Int.add_zero]
theorem count_no {F S L t n e : Int} (he : e ≠ 0) (hm : tick_May.f S L F = some e) : tick_Count.f t n F S L = some (0, e) := by
  unfold tick_Count.f
  rw [hm]
  simp only [Option.bind_some]
  rw [if_neg he]

theorem may_again {F S L : Int} (l0 : 0 ≤ L) : rotaref01_May.f S L F = tick_May.f S L F := by
  unfold rotaref01_May.f tick_May.f
  have : (L = 0) = (L < 1) := by apply propext; omega
  simp only [this]
theorem TickAdds : rotalaw01_TickAdds.Pure := by
  intro t F S L n m wt wF wS wL wn wm
  obtain ⟨t0, ht⟩ := u64b wt
  obtain ⟨f0, hF⟩ := u64b wF
  obtain ⟨s0, hS⟩ := u64b wS
  obtain ⟨l0, hL⟩ := u64b wL
  obtain ⟨n0, hn⟩ := u64b wn
  obtain ⟨m0, hm'⟩ := u64b wm
  refine ⟨2, ?_⟩
  unfold rotalaw01_TickAdds.f
  rw [lives_eq]
  simp only [Option.bind_some, if_true]
  rw [add_eq n0 m0 hn hm', add_eq t0 n0 ht hn]
  rcases may_cases f0 s0 l0 hF with ⟨o, hm⟩ | ⟨e, he, hm⟩
  · have cc : ∀ x y, 0 ≤ x → 0 ≤ y → x < 18446744073709551616 → y < 18446744073709551616 → tick_Count.f x y F S L = if y = 0 then some (0, 0) else if 18446744073709551616 < x + y then some (0, 10) else some (cnt (x + y) F S L - cnt x F S L, 0) :=
      fun x y x0 y0 hx hy => count_eq o x0 y0 hx hy hF hm
    by_cases h1 : 18446744073709551615 < n + m
    · rw [if_pos h1]
      simp only [Option.bind_some]
      rw [cc t 0 t0 (by omega) ht (by omega), if_pos rfl]
      by_cases h2 : 18446744073709551615 < t + n
      · rw [if_pos h2]; simp [rotalaw01_TickAdds.j0, hm, may_again l0]
      · rw [if_neg h2]; simp [rotalaw01_TickAdds.j0, hm, may_again l0]
    rw [if_neg h1]
    by_cases h2 : 18446744073709551615 < t + n
    · rw [if_pos h2]
      simp only [Option.bind_some]
      rw [cc t (n + m) t0 (by omega) ht (by omega)]
      split
      · simp [rotalaw01_TickAdds.j0, hm, may_again l0]
      · split <;> simp [rotalaw01_TickAdds.j0, hm, may_again l0]
    rw [if_neg h2]
    simp only [Option.bind_some]
    rw [cc t (n + m) t0 (by omega) ht (by omega)]
    by_cases h3 : n + m = 0
    · obtain rfl : n = 0 := by omega
      obtain rfl : m = 0 := by omega
      rw [if_pos h3]
      simp only [Option.bind_some, rotalaw01_TickAdds.j0]
      simp [cc t 0 t0 (by omega) ht (by omega)]
      decide
    rw [if_neg h3]
    by_cases h4 : 18446744073709551616 < t + (n + m)
    · rw [if_pos h4]
      simp [rotalaw01_TickAdds.j0, hm, may_again l0]
    rw [if_neg h4]
    have g1 := cnt_mono o (t := t) (u := t + n) (by omega)
    have g2 := cnt_mono o (t := t + n) (u := t + n + m) (by omega)
    have e1 : tick_Count.f t n F S L = some (cnt (t + n) F S L - cnt t F S L, 0) := by
      rw [cc t n t0 n0 ht hn]
      by_cases h : n = 0
      · subst h; simp
      · rw [if_neg h, if_neg (by omega)]
    have e2 : tick_Count.f (t + n) m F S L = some (cnt (t + n + m) F S L - cnt (t + n) F S L, 0) := by
      rw [cc (t + n) m (by omega) m0 (by omega) hm']
      by_cases h : m = 0
      · subst h; simp
      · rw [if_neg h, if_neg (by omega)]
    simp only [Option.bind_some, if_true, rotalaw01_TickAdds.j0]
    have bf : ((0 : Int) != 0) = false := by decide
    rw [bf, if_neg (by decide), e1, e2]
    simp only [Option.bind_some, if_true]
    rw [if_pos (by omega), if_pos (by omega), u64in _ (by omega) (by omega)]
    have e3 : t + (n + m) = t + n + m := by omega
    rw [e3]
    have e4 : cnt (t + n) F S L - cnt t F S L + (cnt (t + n + m) F S L - cnt (t + n) F S L) = cnt (t + n + m) F S L - cnt t F S L := by omega
    rw [e4]; simp
  · have cc : ∀ x y, tick_Count.f x y F S L = some (0, e) := fun x y => count_no he hm
    have bt : (e != 0) = true := by simp [he]
    have key : ∀ s on1 on2 : Int, rotalaw01_TickAdds.j0 2 n m s on1 on2 0 e true t F S L = some true := by
      intro s on1 on2
      simp [rotalaw01_TickAdds.j0, may_again l0, hm]
    by_cases h1 : 18446744073709551615 < n + m
    · rw [if_pos h1]
      by_cases h2 : 18446744073709551615 < t + n
      · rw [if_pos h2]; simp [cc, key]
      · rw [if_neg h2]; simp [cc, key]
    · rw [if_neg h1]
      by_cases h2 : 18446744073709551615 < t + n
      · rw [if_pos h2]; simp [cc, key]
      · rw [if_neg h2]; simp [cc, bt, key]
end Go.Proofs.Ytafgilnjggindaa.Pure
