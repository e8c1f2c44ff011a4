/- Run of instructions of any costs, from any processor, answers as the document's reference does: no condition. -/
import Derived.Test.YtdmfoeokfmgglaaPSliceRunsx
import Derived.Test.YtdmfoeokfmgglaaSl
set_option linter.unusedVariables false
set_option linter.unusedSimpArgs false
namespace Go.Proofs.Ytdmfoeokfmgglaa.Pure
open Go.RowKit Go.Proofs.Ytdmfoeokfmgglaa.PSliceRuns Go.Proofs.YtdmfoeokfmgglaaW.PrintWords Go.Proofs.YtdmfoeokfmgglaaW.PrintLast Go.Proofs.Ytdmfoeokfmgglaa.Sl

theorem awake_eq (k : Nat) : rotalaw22_awake.f (k + 1) = some true := by rfl

theorem begin_yes (k : Nat) (a1 a2 a3 s : Int) (b : Bool) (x : Int) (h1 : 1 ≤ x) (h2 : x ≤ 8) (hs : s ≠ 0) : slice_Begin.f (k + 1) true a1 a2 a3 s b 0 x = some (true, a1, a2, a3, s, true, x, 0) := by
  unfold slice_Begin.f
  rw [if_neg (by omega)]
  have : decide (x > 8) = false := by simp; omega
  rw [this, slice_Begin.j0]
  simp [hs]
theorem begin_no (k : Nat) (h : Bool) (a1 a2 a3 s : Int) (b : Bool) (c x : Int) (hx : ¬ (1 ≤ x ∧ x ≤ 8)) : slice_Begin.f (k + 1) h a1 a2 a3 s b c x = some (h, a1, a2, a3, s, b, c, 1) := by
  unfold slice_Begin.f
  by_cases h1 : x < 1
  · rw [if_pos h1, slice_Begin.j0]; simp
  · rw [if_neg h1]
    have : decide (x > 8) = true := by simp; omega
    rw [this, slice_Begin.j0]; simp

theorem tick_yes (h : Bool) (a1 a2 a3 s : Int) (b : Bool) (c : Int) (s0 : 0 ≤ s) (s1 : s < 18446744073709551616) (c0 : 0 < c) (c1 : c < 18446744073709551616) : slice_Tick.f h a1 a2 a3 s b c = some (h, a1, a2, a3, dec s, b, c - 1, decide (c = 1), 0) := by
  unfold slice_Tick.f
  rw [if_neg (by omega), u64in (c - 1) (by omega) (by omega)]
  have e : s - mn s 1 = dec s := by unfold mn dec; split <;> (first | omega | (split <;> omega))
  have d := dec_bd s0
  rw [e, u64in (dec s) d.1 (by omega)]
  have e2 : (c - 1 == 0) = decide (c = 1) := by rw [Bool.eq_iff_iff]; simp; omega
  rw [e2]

theorem rd_nat (L : List Int) (e : Nat) : rd L (e : Int) = L.getD e 0 := by simp [rd]
theorem wrap_up {e : Nat} (h : e + 1 ≤ 9223372036854775807) : wrap64 ((e : Int) + 1) = ((e + 1 : Nat) : Int) := by unfold wrap64; omega
theorem run_all (L : List Int) (hL : L.length ≤ 9223372036854775807) (hw : ∀ x ∈ L, (Lit.int .u64 x).wf = true) : ∀ (n k e : Nat) (t : Int) (h : Bool) (a1 a2 a3 s : Int) (b : Bool) (c : Int),
    3 * n + 4 ≤ k → (0 < c → e + 1 ≤ 9223372036854775807) → 0 ≤ t → t + n < 18446744073709551616 → 0 ≤ s → s < 18446744073709551616 → 0 ≤ c → c < 18446744073709551616 →
    slice_Run.l0 k L n e t h a1 a2 a3 s b c = some (((fin L n e h s b c).1 : Int), t + ((fin L n e h s b c).2.1 : Int), h, a1, a2, a3, (fin L n e h s b c).2.2.1, (fin L n e h s b c).2.2.2.1, (fin L n e h s b c).2.2.2.2) := by
  intro n
  induction n with
  | zero =>
    intro k e t h a1 a2 a3 s b c hk _ _ _ _ _ _ _
    obtain ⟨k, rfl⟩ : ∃ m, k = m + 1 := ⟨k - 1, by omega⟩
    rw [slice_Run.l0, if_neg (by simp), fin]
    simp
  | succ n ih =>
    intro k e t h a1 a2 a3 s b c hk he t0 t1 s0 s1 c0 c1
    obtain ⟨k, rfl⟩ : ∃ m, k = m + 4 := ⟨k - 4, by omega⟩
    have hr : slice_Run.l0 (k + 4) L ((n + 1 : Nat) : Int) e t h a1 a2 a3 s b c = slice_Run.j1 (k + 3) L ((n + 1 : Nat) : Int) e t (if e < L.length then L.getD e 0 else 0) h a1 a2 a3 s b c := by
      rw [slice_Run.l0, if_pos (by omega)]
      by_cases hlt : e < L.length
      · rw [if_pos (by omega), if_pos (by omega), if_pos hlt, rd_nat]
      · rw [if_neg (by omega), if_neg hlt]
    rw [hr, slice_Run.j1, fin]
    have hx : IntKind.u64.wrap (((n + 1 : Nat) : Int) - 1) = (n : Int) := by
      have : ((n + 1 : Nat) : Int) - 1 = n := by omega
      rw [this, u64in _ (by omega) (by omega)]
    have ht : IntKind.u64.wrap (t + 1) = t + 1 := u64in _ (by omega) (by omega)
    have hd := dec_bd s0
    cases h with
    | false => simp [slice_Decide.f]
    | true =>
      simp only [Bool.true_eq_false, if_false]
      by_cases hc : 0 < c
      · rw [if_pos hc]
        have D : slice_Decide.f true a1 a2 a3 s b c (if e < L.length then L.getD e 0 else 0) ((n + 1 : Nat) : Int) = some 2 := by
          unfold slice_Decide.f; rw [if_pos rfl, if_pos hc]
        rw [D]
        simp only [Option.bind_some]
        rw [if_neg (by decide), if_pos trivial, tick_yes true a1 a2 a3 s b c s0 s1 hc c1]
        simp only [Option.bind_some, decide_eq_true_eq]
        have he := he hc
        rw [hx, ht, wrap_up (by omega)]
        by_cases h1 : c = 1
        · rw [if_pos h1, if_pos h1]
          rw [ih (k + 2) (e + 1) (t + 1) true a1 a2 a3 (dec s) b (c - 1) (by omega) (by omega) (by omega) (by omega) hd.1 (by omega) (by omega) (by omega)]
          unfold onem
          simp; omega
        · rw [if_neg h1, if_neg h1]
          rw [ih (k + 2) e (t + 1) true a1 a2 a3 (dec s) b (c - 1) (by omega) (by omega) (by omega) (by omega) hd.1 (by omega) (by omega) (by omega)]
          unfold onem
          simp; omega
      · obtain rfl : c = 0 := by omega
        rw [if_neg hc]
        by_cases h0 : s = 0
        · rw [if_pos h0]
          subst h0
          simp [slice_Decide.f]
        rw [if_neg h0]
        by_cases hg : goes L e (n + 1)
        · obtain ⟨g1, g2, g3, g4⟩ := hg
          rw [if_pos g1, if_pos (show goes L e (n + 1) from ⟨g1, g2, g3, g4⟩)]
          generalize hx' : L.getD e 0 = x at *
          have D : slice_Decide.f true a1 a2 a3 s b 0 x ((n + 1 : Nat) : Int) = some 5 := by
            unfold slice_Decide.f; rw [if_pos rfl, if_neg (by decide), if_neg h0, if_neg (by omega)]
          rw [D]
          simp only [Option.bind_some]
          rw [if_pos trivial, begin_yes (k + 1) a1 a2 a3 s b x g2 g3 h0]
          simp only [Option.bind_some]
          rw [if_neg (by omega)]
          have z : ((0 : Int) != 0) = false := by decide
          rw [z, slice_Run.j2, if_neg (by decide), tick_yes true a1 a2 a3 s true x s0 s1 (by omega) (by omega)]
          simp only [Option.bind_some, decide_eq_true_eq]
          rw [hx, ht, wrap_up (by omega)]
          by_cases h1 : x = 1
          · rw [if_pos h1, if_pos h1]
            rw [ih (k + 1) (e + 1) (t + 1) true a1 a2 a3 (dec s) true (x - 1) (by omega) (by omega) (by omega) (by omega) hd.1 (by omega) (by omega) (by omega)]
            unfold onem
            simp; omega
          · rw [if_neg h1, if_neg h1]
            rw [ih (k + 1) e (t + 1) true a1 a2 a3 (dec s) true (x - 1) (by omega) (by omega) (by omega) (by omega) hd.1 (by omega) (by omega) (by omega)]
            unfold onem
            simp; omega
        · rw [if_neg hg]
          generalize hx' : (if e < L.length then L.getD e 0 else 0) = x
          by_cases h4 : x > ((n + 1 : Nat) : Int)
          · have D : slice_Decide.f true a1 a2 a3 s b 0 x ((n + 1 : Nat) : Int) = some 4 := by
              unfold slice_Decide.f; rw [if_pos rfl, if_neg (by decide), if_neg h0, if_pos h4]
            rw [D]
            simp
          · have D : slice_Decide.f true a1 a2 a3 s b 0 x ((n + 1 : Nat) : Int) = some 5 := by
              unfold slice_Decide.f; rw [if_pos rfl, if_neg (by decide), if_neg h0, if_neg h4]
            rw [D]
            simp only [Option.bind_some]
            rw [if_pos trivial]
            by_cases hlt : e < L.length
            · rw [if_pos hlt] at hx'
              rw [begin_no (k + 1) true a1 a2 a3 s b 0 x (fun ⟨p, q⟩ => hg ⟨hlt, by omega, by omega, by omega⟩)]
              simp only [Option.bind_some]
              rw [if_neg (by omega)]
              have z : ((1 : Int) != 0) = true := by decide
              rw [z, slice_Run.j2, if_pos rfl]
              simp
            · rw [if_neg hlt] at hx'
              rw [begin_no (k + 1) true a1 a2 a3 s b 0 x (by omega)]
              simp only [Option.bind_some]
              rw [if_pos (by omega), slice_Run.j2, if_pos rfl]
              simp
/-- Run, from any processor. -/
theorem run_eq {L : List Int} (hL : L.length ≤ 9223372036854775807) (hw : ∀ x ∈ L, (Lit.int .u64 x).wf = true) {n k : Nat} (hk : 3 * n + 4 ≤ k) (hn : n < 18446744073709551616) (h : Bool) (a1 a2 a3 : Int) {s : Int} (b : Bool) {c : Int} (s0 : 0 ≤ s) (s1 : s < 18446744073709551616) (c0 : 0 ≤ c) (c1 : c < 18446744073709551616) :
    slice_Run.f k h a1 a2 a3 s b c L n = some (((fin L n 0 h s b c).1 : Int), ((fin L n 0 h s b c).2.1 : Int), h, a1, a2, a3, (fin L n 0 h s b c).2.2.1, (fin L n 0 h s b c).2.2.2.1, (fin L n 0 h s b c).2.2.2.2) := by
  have := run_all L hL hw n k 0 0 h a1 a2 a3 s b c hk (fun _ => by omega) (by omega) (by omega) s0 s1 c0 c1
  unfold slice_Run.f
  simpa using this
/-- Run, from between two instructions. -/
theorem run_eq0 {L : List Int} (hL : L.length ≤ 9223372036854775807) (hw : ∀ x ∈ L, (Lit.int .u64 x).wf = true) {n k : Nat} (hk : 3 * n + 4 ≤ k) (hn : n < 18446744073709551616) (h : Bool) (a1 a2 a3 : Int) {s : Int} (b : Bool) (s0 : 0 ≤ s) (s1 : s < 18446744073709551616) :
    slice_Run.f k h a1 a2 a3 s b 0 L n = some (((irun L n h s b).1 : Int), ((irun L n h s b).2.1 : Int), h, a1, a2, a3, (irun L n h s b).2.2.1, (irun L n h s b).2.2.2, 0) := by
  rw [run_eq hL hw hk hn h a1 a2 a3 b s0 s1 (by omega) (by omega), fin_irun L n 0 h s b s0]
  simp

theorem refbegin_yes (a1 a2 a3 s : Int) (b : Bool) (x : Int) (h1 : 1 ≤ x) (h2 : x ≤ 8) (hs : s ≠ 0) : rotaref22_Begin.f true a1 a2 a3 s b 0 x = some (true, a1, a2, a3, s, true, x, 0) := by
  have q : rotaref22_costs.f x = some true := by unfold rotaref22_costs.f; rw [if_pos h1]; simp [h2]
  unfold rotaref22_Begin.f
  rw [q]; simp [hs]
theorem reftick_yes (h : Bool) (a1 a2 a3 s : Int) (b : Bool) (c : Int) (s0 : 0 ≤ s) (s1 : s < 18446744073709551616) (c0 : 0 < c) (c1 : c < 18446744073709551616) : rotaref22_Tick.f h a1 a2 a3 s b c = some (h, a1, a2, a3, dec s, b, c - 1, decide (c = 1), 0) := by
  unfold rotaref22_Tick.f
  rw [if_neg (by omega), u64in (c - 1) (by omega) (by omega)]
  have e2 : (c - 1 == 0) = decide (c = 1) := by rw [Bool.eq_iff_iff]; simp; omega
  rw [e2]
  unfold dec
  by_cases h : s > 0
  · rw [if_pos h, if_neg (by omega), u64in (s - 1) (by omega) (by omega)]
  · obtain rfl : s = 0 := by omega
    rw [if_neg h, if_pos rfl]
theorem refrun_all (L : List Int) (N : Nat) (hN : N < 18446744073709551616) (hL : L.length ≤ 9223372036854775807) : ∀ (n k e : Nat) (t : Int) (h : Bool) (a1 a2 a3 s : Int) (b : Bool) (c : Int),
    4 * n + 4 ≤ k → (0 < c → e + 1 ≤ 9223372036854775807) → 0 ≤ t → t + n = N → 0 ≤ s → s < 18446744073709551616 → 0 ≤ c → c < 18446744073709551616 →
    rotaref22_Run.l0 k L N e t h a1 a2 a3 s b c = some (((fin L n e h s b c).1 : Int), t + ((fin L n e h s b c).2.1 : Int), h, a1, a2, a3, (fin L n e h s b c).2.2.1, (fin L n e h s b c).2.2.2.1, (fin L n e h s b c).2.2.2.2) := by
  intro n
  induction n with
  | zero =>
    intro k e t h a1 a2 a3 s b c hk _ _ _ _ _ _ _
    obtain ⟨k, rfl⟩ : ∃ m, k = m + 1 := ⟨k - 1, by omega⟩
    rw [rotaref22_Run.l0, if_neg (by omega), fin]
    simp
  | succ n ih =>
    intro k e t h a1 a2 a3 s b c hk he t0 t1 s0 s1 c0 c1
    obtain ⟨k, rfl⟩ : ∃ m, k = m + 5 := ⟨k - 5, by omega⟩
    have hr : rotaref22_Run.l0 (k + 5) L N e t h a1 a2 a3 s b c = rotaref22_Run.j1 (k + 4) L N e t (if e < L.length then L.getD e 0 else 0) h a1 a2 a3 s b c := by
      rw [rotaref22_Run.l0, if_pos (by omega)]
      by_cases hlt : e < L.length
      · rw [if_pos (by omega), if_pos (by omega), if_pos hlt, rd_nat]
      · rw [if_neg (by omega), if_neg hlt]
    have hl : IntKind.u64.wrap ((N : Int) - t) = ((n + 1 : Nat) : Int) := by
      have : (N : Int) - t = ((n + 1 : Nat) : Int) := by omega
      rw [this, u64in _ (by omega) (by omega)]
    rw [hr, rotaref22_Run.j1, fin, hl]
    have ht : IntKind.u64.wrap (t + 1) = t + 1 := u64in _ (by omega) (by omega)
    have hd := dec_bd s0
    cases h with
    | false => simp [rotaref22_Decide.f, rotaref22_Run.j2, rotaref22_Run.j3]
    | true =>
      simp only [Bool.true_eq_false, if_false]
      by_cases hc : 0 < c
      · rw [if_pos hc]
        have D : rotaref22_Decide.f true a1 a2 a3 s b c (if e < L.length then L.getD e 0 else 0) ((n + 1 : Nat) : Int) = some 2 := by
          unfold rotaref22_Decide.f; rw [if_pos rfl, if_pos hc]
        rw [D]
        simp only [Option.bind_some]
        rw [if_neg (by decide), rotaref22_Run.j2, if_neg (by decide), rotaref22_Run.j3, if_pos rfl, reftick_yes true a1 a2 a3 s b c s0 s1 hc c1]
        simp only [Option.bind_some, decide_eq_true_eq]
        have he := he hc
        rw [ht, wrap_up (by omega)]
        by_cases h1 : c = 1
        · rw [if_pos h1, if_pos h1]
          rw [ih (k + 1) (e + 1) (t + 1) true a1 a2 a3 (dec s) b (c - 1) (by omega) (by omega) (by omega) (by omega) hd.1 (by omega) (by omega) (by omega)]
          unfold onem
          simp; omega
        · rw [if_neg h1, if_neg h1]
          rw [ih (k + 1) e (t + 1) true a1 a2 a3 (dec s) b (c - 1) (by omega) (by omega) (by omega) (by omega) hd.1 (by omega) (by omega) (by omega)]
          unfold onem
          simp; omega
      · obtain rfl : c = 0 := by omega
        rw [if_neg hc]
        by_cases h0 : s = 0
        · rw [if_pos h0]
          subst h0
          simp [rotaref22_Decide.f, rotaref22_Run.j2, rotaref22_Run.j3]
        rw [if_neg h0]
        by_cases hg : goes L e (n + 1)
        · obtain ⟨g1, g2, g3, g4⟩ := hg
          rw [if_pos g1, if_pos (show goes L e (n + 1) from ⟨g1, g2, g3, g4⟩)]
          generalize hx' : L.getD e 0 = x at *
          have D : rotaref22_Decide.f true a1 a2 a3 s b 0 x ((n + 1 : Nat) : Int) = some 5 := by
            unfold rotaref22_Decide.f; rw [if_pos rfl, if_neg (by decide), if_neg h0, if_neg (by omega)]
          have q : rotaref22_costs.f x = some true := by unfold rotaref22_costs.f; rw [if_pos g2]; simp [g3]
          rw [D]
          simp only [Option.bind_some]
          rw [if_pos trivial, if_pos (by omega), q]
          simp only [Option.bind_some]
          rw [rotaref22_Run.j2, if_pos rfl, refbegin_yes a1 a2 a3 s b x g2 g3 h0]
          simp only [Option.bind_some]
          rw [rotaref22_Run.j3, if_pos rfl, reftick_yes true a1 a2 a3 s true x s0 s1 (by omega) (by omega)]
          simp only [Option.bind_some, decide_eq_true_eq]
          rw [ht, wrap_up (by omega)]
          by_cases h1 : x = 1
          · rw [if_pos h1, if_pos h1]
            rw [ih (k + 1) (e + 1) (t + 1) true a1 a2 a3 (dec s) true (x - 1) (by omega) (by omega) (by omega) (by omega) hd.1 (by omega) (by omega) (by omega)]
            unfold onem
            simp; omega
          · rw [if_neg h1, if_neg h1]
            rw [ih (k + 1) e (t + 1) true a1 a2 a3 (dec s) true (x - 1) (by omega) (by omega) (by omega) (by omega) hd.1 (by omega) (by omega) (by omega)]
            unfold onem
            simp; omega
        · rw [if_neg hg]
          generalize hx' : (if e < L.length then L.getD e 0 else 0) = x
          by_cases h4 : x > ((n + 1 : Nat) : Int)
          · have D : rotaref22_Decide.f true a1 a2 a3 s b 0 x ((n + 1 : Nat) : Int) = some 4 := by
              unfold rotaref22_Decide.f; rw [if_pos rfl, if_neg (by decide), if_neg h0, if_pos h4]
            rw [D]
            simp [rotaref22_Run.j2, rotaref22_Run.j3]
          · have D : rotaref22_Decide.f true a1 a2 a3 s b 0 x ((n + 1 : Nat) : Int) = some 5 := by
              unfold rotaref22_Decide.f; rw [if_pos rfl, if_neg (by decide), if_neg h0, if_neg h4]
            rw [D]
            simp only [Option.bind_some]
            rw [if_pos trivial]
            by_cases hlt : e < L.length
            · rw [if_pos hlt] at hx'
              have q : rotaref22_costs.f x = some false := by
                unfold rotaref22_costs.f
                by_cases hx1 : x ≥ 1
                · rw [if_pos hx1]
                  have : decide (x ≤ 8) = false := by
                    simp only [decide_eq_false_iff_not]
                    exact fun p => hg ⟨hlt, by omega, by omega, by omega⟩
                  rw [this]
                · rw [if_neg hx1]
              rw [if_pos (by omega), q]
              simp [rotaref22_Run.j2, rotaref22_Run.j3]
            · rw [if_neg (by omega)]
              simp [rotaref22_Run.j2, rotaref22_Run.j3]
theorem refrun_eq {L : List Int} (hL : L.length ≤ 9223372036854775807) {n k : Nat} (hk : 4 * n + 4 ≤ k) (hn : n < 18446744073709551616) (h : Bool) (a1 a2 a3 : Int) {s : Int} (b : Bool) {c : Int} (s0 : 0 ≤ s) (s1 : s < 18446744073709551616) (c0 : 0 ≤ c) (c1 : c < 18446744073709551616) :
    rotaref22_Run.f k h a1 a2 a3 s b c L n = some (((fin L n 0 h s b c).1 : Int), ((fin L n 0 h s b c).2.1 : Int), h, a1, a2, a3, (fin L n 0 h s b c).2.2.1, (fin L n 0 h s b c).2.2.2.1, (fin L n 0 h s b c).2.2.2.2) := by
  have := refrun_all L n hn hL n k 0 0 h a1 a2 a3 s b c hk (fun _ => by omega) (by omega) (by omega) s0 s1 c0 c1
  unfold rotaref22_Run.f
  simpa using this

theorem far_eq {L : List Int} (hL : L.length ≤ 140737488351232) {n : Int} (n0 : 0 ≤ n) : ∃ m : Nat, (m : Int) ≤ n ∧ rotalaw22_far.f n L = some (m : Int) := by
  unfold rotalaw22_far.f
  have e : wrap64 ((L.length : Int) + 2) = (L.length : Int) + 2 := by unfold wrap64; omega
  rw [e, u64in ((L.length : Int) + 2) (by omega) (by omega), u64in (((L.length : Int) + 2) * 8) (by omega) (by omega)]
  by_cases h : n > ((L.length : Int) + 2) * 8
  · rw [if_pos h]; exact ⟨(((L.length : Int) + 2) * 8).toNat, by omega, by rw [Int.toNat_of_nonneg (by omega)]⟩
  · rw [if_neg h]; exact ⟨n.toNat, by omega, by rw [Int.toNat_of_nonneg n0]⟩

theorem SliceRuns : rotalaw22_SliceRuns.Pure := by
  intro h a1 a2 a3 s b c L left w1 w2 w3 ws wc hm hL hw wl
  obtain ⟨s0, s1⟩ := u64b ws
  obtain ⟨c0, c1⟩ := u64b wc
  obtain ⟨l0, l1⟩ := u64b wl
  have hL' : L.length ≤ 140737488351232 := by omega
  by_cases h8 : c > 8
  · obtain ⟨m, hmn, hf⟩ := far_eq hL' l0
    refine ⟨4 * m + 5, ?_⟩
    unfold rotalaw22_SliceRuns.f
    rw [if_pos h8, hf]
    simp only [Option.bind_some]
    rw [run_eq (by omega) hw (by omega) (by omega) h a1 a2 a3 b s0 s1 c0 c1, refrun_eq (by omega) (by omega) (by omega) h a1 a2 a3 b s0 s1 c0 c1]
    simp [awake_eq]
  · obtain ⟨m, rfl⟩ := Int.eq_ofNat_of_zero_le l0
    refine ⟨4 * m + 5, ?_⟩
    unfold rotalaw22_SliceRuns.f
    rw [if_neg h8]
    rw [run_eq (by omega) hw (by omega) (by omega) h a1 a2 a3 b s0 s1 c0 c1, refrun_eq (by omega) (by omega) (by omega) h a1 a2 a3 b s0 s1 c0 c1]
    simp [awake_eq]
end Go.Proofs.Ytdmfoeokfmgglaa.Pure
