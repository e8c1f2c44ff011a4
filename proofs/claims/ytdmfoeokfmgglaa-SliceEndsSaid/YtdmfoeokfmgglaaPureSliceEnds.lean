/- What is begun in a window ends in it, and no more ticks pass than are left: no condition. -/
import Derived.Test.YtdmfoeokfmgglaaPSliceEndsx
import Derived.Test.YtdmfoeokfmgglaaSl
set_option linter.unusedVariables false
set_option linter.unusedSimpArgs false
namespace Go.Proofs.Ytdmfoeokfmgglaa.Pure
open Go.RowKit Go.Proofs.Ytdmfoeokfmgglaa.PSliceEnds Go.Proofs.YtdmfoeokfmgglaaW.PrintWords Go.Proofs.YtdmfoeokfmgglaaW.PrintLast Go.Proofs.Ytdmfoeokfmgglaa.Sl

theorem awake_eq (k : Nat) : rotalaw22_awake.f (k + 1) = some true := by rfl

theorem begin_yes (k : Nat) (a1 a2 a3 s : Int) (b : Bool) (x : Int) (h1 : 1 ≤ x) (h2 : x ≤ 8) (hs : s ≠ 0) : slice_Begin.f (k + 1) true a1 a2 a3 s b 0 x = some (true, a1, a2, a3, s, true, x, 0) := by
  unfold slice_Begin.f
  rw [if_neg (by omega)]
  have : decide (x > 8) = false := by simp; omega
  rw [this, slice_Begin.j0]
  simp [hs]
theorem begin_no (k : Nat) (h : Bool) (a1 a2 a3 s : Int) (b : Bool) (c x : Int) (hx : ¬ (1 ≤ x ∧ x ≤ 8)) : slice_Begin.f (k + 1) h a1 a2 a3 s b c x = some (h, a1, a2, a3, s, b, c, 1) := by
  unfold slice_Begin.f
  by_cases h1 : x < 1
  · rw [if_pos h1, slice_Begin.j0]; simp
  · rw [if_neg h1]
    have : decide (x > 8) = true := by simp; omega
    rw [this, slice_Begin.j0]; simp

theorem tick_yes (h : Bool) (a1 a2 a3 s : Int) (b : Bool) (c : Int) (s0 : 0 ≤ s) (s1 : s < 18446744073709551616) (c0 : 0 < c) (c1 : c < 18446744073709551616) : slice_Tick.f h a1 a2 a3 s b c = some (h, a1, a2, a3, dec s, b, c - 1, decide (c = 1), 0) := by
  unfold slice_Tick.f
  rw [if_neg (by omega), u64in (c - 1) (by omega) (by omega)]
  have e : s - mn s 1 = dec s := by unfold mn dec; split <;> (first | omega | (split <;> omega))
  have d := dec_bd s0
  rw [e, u64in (dec s) d.1 (by omega)]
  have e2 : (c - 1 == 0) = decide (c = 1) := by rw [Bool.eq_iff_iff]; simp; omega
  rw [e2]

theorem rd_nat (L : List Int) (e : Nat) : rd L (e : Int) = L.getD e 0 := by simp [rd]
theorem wrap_up {e : Nat} (h : e + 1 ≤ 9223372036854775807) : wrap64 ((e : Int) + 1) = ((e + 1 : Nat) : Int) := by unfold wrap64; omega
theorem run_all (L : List Int) (hL : L.length ≤ 9223372036854775807) (hw : ∀ x ∈ L, (Lit.int .u64 x).wf = true) : ∀ (n k e : Nat) (t : Int) (h : Bool) (a1 a2 a3 s : Int) (b : Bool) (c : Int),
    3 * n + 4 ≤ k → (0 < c → e + 1 ≤ 9223372036854775807) → 0 ≤ t → t + n < 18446744073709551616 → 0 ≤ s → s < 18446744073709551616 → 0 ≤ c → c < 18446744073709551616 →
    slice_Run.l0 k L n e t h a1 a2 a3 s b c = some (((fin L n e h s b c).1 : Int), t + ((fin L n e h s b c).2.1 : Int), h, a1, a2, a3, (fin L n e h s b c).2.2.1, (fin L n e h s b c).2.2.2.1, (fin L n e h s b c).2.2.2.2) := by
  intro n
  induction n with
  | zero =>
    intro k e t h a1 a2 a3 s b c hk _ _ _ _ _ _ _
    obtain ⟨k, rfl⟩ : ∃ m, k = m + 1 := ⟨k - 1, by omega⟩
    rw [slice_Run.l0, if_neg (by simp), fin]
    simp
  | succ n ih =>
    intro k e t h a1 a2 a3 s b c hk he t0 t1 s0 s1 c0 c1
    obtain ⟨k, rfl⟩ : ∃ m, k = m + 4 := ⟨k - 4, by omega⟩
    have hr : slice_Run.l0 (k + 4) L ((n + 1 : Nat) : Int) e t h a1 a2 a3 s b c = slice_Run.j1 (k + 3) L ((n + 1 : Nat) : Int) e t (if e < L.length then L.getD e 0 else 0) h a1 a2 a3 s b c := by
      rw [slice_Run.l0, if_pos (by omega)]
      by_cases hlt : e < L.length
      · rw [if_pos (by omega), if_pos (by omega), if_pos hlt, rd_nat]
      · rw [if_neg (by omega), if_neg hlt]
    rw [hr, slice_Run.j1, fin]
    have hx : IntKind.u64.wrap (((n + 1 : Nat) : Int) - 1) = (n : Int) := by
      have : ((n + 1 : Nat) : Int) - 1 = n := by omega
      rw [this, u64in _ (by omega) (by omega)]
    have ht : IntKind.u64.wrap (t + 1) = t + 1 := u64in _ (by omega) (by omega)
    have hd := dec_bd s0
    cases h with
    | false => simp [slice_Decide.f]
    | true =>
      simp only [Bool.true_eq_false, if_false]
      by_cases hc : 0 < c
      · rw [if_pos hc]
        have D : slice_Decide.f true a1 a2 a3 s b c (if e < L.length then L.getD e 0 else 0) ((n + 1 : Nat) : Int) = some 2 := by
          unfold slice_Decide.f; rw [if_pos rfl, if_pos hc]
        rw [D]
        simp only [Option.bind_some]
        rw [if_neg (by decide), if_pos trivial, tick_yes true a1 a2 a3 s b c s0 s1 hc c1]
        simp only [Option.bind_some, decide_eq_true_eq]
        have he := he hc
        rw [hx, ht, wrap_up (by omega)]
        by_cases h1 : c = 1
        · rw [if_pos h1, if_pos h1]
          rw [ih (k + 2) (e + 1) (t + 1) true a1 a2 a3 (dec s) b (c - 1) (by omega) (by omega) (by omega) (by omega) hd.1 (by omega) (by omega) (by omega)]
          unfold onem
          simp; omega
        · rw [if_neg h1, if_neg h1]
          rw [ih (k + 2) e (t + 1) true a1 a2 a3 (dec s) b (c - 1) (by omega) (by omega) (by omega) (by omega) hd.1 (by omega) (by omega) (by omega)]
          unfold onem
          simp; omega
      · obtain rfl : c = 0 := by omega
        rw [if_neg hc]
        by_cases h0 : s = 0
        · rw [if_pos h0]
          subst h0
          simp [slice_Decide.f]
        rw [if_neg h0]
        by_cases hg : goes L e (n + 1)
        · obtain ⟨g1, g2, g3, g4⟩ := hg
          rw [if_pos g1, if_pos (show goes L e (n + 1) from ⟨g1, g2, g3, g4⟩)]
          generalize hx' : L.getD e 0 = x at *
          have D : slice_Decide.f true a1 a2 a3 s b 0 x ((n + 1 : Nat) : Int) = some 5 := by
            unfold slice_Decide.f; rw [if_pos rfl, if_neg (by decide), if_neg h0, if_neg (by omega)]
          rw [D]
          simp only [Option.bind_some]
          rw [if_pos trivial, begin_yes (k + 1) a1 a2 a3 s b x g2 g3 h0]
          simp only [Option.bind_some]
          rw [if_neg (by omega)]
          have z : ((0 : Int) != 0) = false := by decide
          rw [z, slice_Run.j2, if_neg (by decide), tick_yes true a1 a2 a3 s true x s0 s1 (by omega) (by omega)]
          simp only [Option.bind_some, decide_eq_true_eq]
          rw [hx, ht, wrap_up (by omega)]
          by_cases h1 : x = 1
          · rw [if_pos h1, if_pos h1]
            rw [ih (k + 1) (e + 1) (t + 1) true a1 a2 a3 (dec s) true (x - 1) (by omega) (by omega) (by omega) (by omega) hd.1 (by omega) (by omega) (by omega)]
            unfold onem
            simp; omega
          · rw [if_neg h1, if_neg h1]
            rw [ih (k + 1) e (t + 1) true a1 a2 a3 (dec s) true (x - 1) (by omega) (by omega) (by omega) (by omega) hd.1 (by omega) (by omega) (by omega)]
            unfold onem
            simp; omega
        · rw [if_neg hg]
          generalize hx' : (if e < L.length then L.getD e 0 else 0) = x
          by_cases h4 : x > ((n + 1 : Nat) : Int)
          · have D : slice_Decide.f true a1 a2 a3 s b 0 x ((n + 1 : Nat) : Int) = some 4 := by
              unfold slice_Decide.f; rw [if_pos rfl, if_neg (by decide), if_neg h0, if_pos h4]
            rw [D]
            simp
          · have D : slice_Decide.f true a1 a2 a3 s b 0 x ((n + 1 : Nat) : Int) = some 5 := by
              unfold slice_Decide.f; rw [if_pos rfl, if_neg (by decide), if_neg h0, if_neg h4]
            rw [D]
            simp only [Option.bind_some]
            rw [if_pos trivial]
            by_cases hlt : e < L.length
            · rw [if_pos hlt] at hx'
              rw [begin_no (k + 1) true a1 a2 a3 s b 0 x (fun ⟨p, q⟩ => hg ⟨hlt, by omega, by omega, by omega⟩)]
              simp only [Option.bind_some]
              rw [if_neg (by omega)]
              have z : ((1 : Int) != 0) = true := by decide
              rw [z, slice_Run.j2, if_pos rfl]
              simp
            · rw [if_neg hlt] at hx'
              rw [begin_no (k + 1) true a1 a2 a3 s b 0 x (by omega)]
              simp only [Option.bind_some]
              rw [if_pos (by omega), slice_Run.j2, if_pos rfl]
              simp
/-- Run, from any processor. -/
theorem run_eq {L : List Int} (hL : L.length ≤ 9223372036854775807) (hw : ∀ x ∈ L, (Lit.int .u64 x).wf = true) {n k : Nat} (hk : 3 * n + 4 ≤ k) (hn : n < 18446744073709551616) (h : Bool) (a1 a2 a3 : Int) {s : Int} (b : Bool) {c : Int} (s0 : 0 ≤ s) (s1 : s < 18446744073709551616) (c0 : 0 ≤ c) (c1 : c < 18446744073709551616) :
    slice_Run.f k h a1 a2 a3 s b c L n = some (((fin L n 0 h s b c).1 : Int), ((fin L n 0 h s b c).2.1 : Int), h, a1, a2, a3, (fin L n 0 h s b c).2.2.1, (fin L n 0 h s b c).2.2.2.1, (fin L n 0 h s b c).2.2.2.2) := by
  have := run_all L hL hw n k 0 0 h a1 a2 a3 s b c hk (fun _ => by omega) (by omega) (by omega) s0 s1 c0 c1
  unfold slice_Run.f
  simpa using this
/-- Run, from between two instructions. -/
theorem run_eq0 {L : List Int} (hL : L.length ≤ 9223372036854775807) (hw : ∀ x ∈ L, (Lit.int .u64 x).wf = true) {n k : Nat} (hk : 3 * n + 4 ≤ k) (hn : n < 18446744073709551616) (h : Bool) (a1 a2 a3 : Int) {s : Int} (b : Bool) (s0 : 0 ≤ s) (s1 : s < 18446744073709551616) :
    slice_Run.f k h a1 a2 a3 s b 0 L n = some (((irun L n h s b).1 : Int), ((irun L n h s b).2.1 : Int), h, a1, a2, a3, (irun L n h s b).2.2.1, (irun L n h s b).2.2.2, 0) := by
  rw [run_eq hL hw hk hn h a1 a2 a3 b s0 s1 (by omega) (by omega), fin_irun L n 0 h s b s0]
  simp

/-- The one pure statement of the law. -/
def EndsPure : Prop := ∀ (h : Bool) (a1 a2 a3 s : Int) (b : Bool) (c : Int) (L : List Int) (left q : Int), (Lit.int .u64 s).wf = true → (Lit.int .u64 c).wf = true → L.length ≤ 9223372036854775807 → (∀ x ∈ L, (Lit.int .u64 x).wf = true) → (Lit.int .u64 left).wf = true → ∃ k, rotalaw22_SliceEnds.f k h a1 a2 a3 s b c L left q = some true
theorem may_has (k : Nat) (a1 a2 a3 s : Int) (b : Bool) (q : Int) (h1 : 1 ≤ q) (h2 : q ≤ 65536) (h3 : s ≤ q) : rotaref22_May.f (k + 1) true a1 a2 a3 s b 0 q = some true := by
  have e : rotaref22_quanta.f q = some true := by unfold rotaref22_quanta.f; rw [if_pos h1]; simp [h2]
  unfold rotaref22_May.f
  rw [e]
  simp only [Option.bind_some, if_true]
  rw [if_neg (by omega), rotaref22_May.j0]
  simp
theorem may_k (k m : Nat) (h : Bool) (a1 a2 a3 s : Int) (b : Bool) (c q : Int) : rotaref22_May.f (k + 1) h a1 a2 a3 s b c q = rotaref22_May.f (m + 1) h a1 a2 a3 s b c q := rfl
theorem may_some (k : Nat) (h : Bool) (a1 a2 a3 s : Int) (b : Bool) (c q : Int) : ∃ r, rotaref22_May.f (k + 1) h a1 a2 a3 s b c q = some r := by
  have d : ∃ r, rotaref22_quanta.f q = some r := by unfold rotaref22_quanta.f; split <;> exact ⟨_, rfl⟩
  obtain ⟨r, hr⟩ := d
  unfold rotaref22_May.f
  rw [hr]
  simp only [Option.bind_some]
  have j : ∀ t, ∃ r, rotaref22_May.j0 (k + 1) t h a1 a2 a3 s b c = some r := by
    intro t
    rw [rotaref22_May.j0]
    repeat' split
    all_goals exact ⟨_, rfl⟩
  repeat' split
  all_goals exact j _
theorem may_inv {k : Nat} {h : Bool} {a1 a2 a3 s : Int} {b : Bool} {c q : Int} (hm : rotaref22_May.f (k + 1) h a1 a2 a3 s b c q = some true) : 1 ≤ q ∧ q ≤ 65536 ∧ s ≤ q := by
  unfold rotaref22_May.f rotaref22_quanta.f at hm
  by_cases h1 : q ≥ 1
  · rw [if_pos h1] at hm
    by_cases h2 : q ≤ 65536
    · have z : decide (q ≤ 65536) = true := by simpa using h2
      rw [z] at hm
      simp only [Option.bind_some, if_true] at hm
      by_cases h3 : s > q
      · rw [if_pos h3, rotaref22_May.j0] at hm
        simp at hm
      · exact ⟨h1, h2, by omega⟩
    · have z : decide (q ≤ 65536) = false := by simpa using h2
      rw [z] at hm
      simp only [Option.bind_some, Bool.false_eq_true, if_false] at hm
      rw [rotaref22_May.j0] at hm
      simp at hm
  · rw [if_neg h1] at hm
    simp only [Option.bind_some, Bool.false_eq_true, if_false] at hm
    rw [rotaref22_May.j0] at hm
    simp at hm
theorem total_nonneg (L : List Int) (hw : ∀ x ∈ L, (Lit.int .u64 x).wf = true) : ∀ k, 0 ≤ total L k := by
  induction L with
  | nil => intro k; simp [total]
  | cons x xs ih =>
    intro k
    cases k with
    | zero => simp [total]
    | succ k =>
      have := ih (fun y hy => hw y (List.mem_cons_of_mem _ hy)) k
      have := u64b (hw x (List.mem_cons_self))
      simp only [total]; omega
theorem total_one (L : List Int) {i : Nat} (hi : i < L.length) : total L (i + 1) = total L i + L.getD i 0 := by
  rw [total_take L i (i + 1) (by omega) (by omega), List.drop_eq_getElem_cons hi]
  have e : i + 1 - i = 1 := by omega
  rw [e]
  have z : ∀ l : List Int, total l 0 = 0 := fun l => by cases l <;> rfl
  simp [total, z, List.getD, List.getElem?_eq_getElem hi]
theorem ends_sum {L : List Int} (hw : ∀ x ∈ L, (Lit.int .u64 x).wf = true) {n : Nat} {left q t : Int} {h : Bool} {a1 a2 a3 s : Int} {b : Bool} (hn : n ≤ L.length) (hL : L.length ≤ 9223372036854775807) (ht : t = total L n) (t1 : t ≤ left) (l1 : left < 18446744073709551616)
    (hm : ∀ m, rotaref22_May.f (m + 1) h a1 a2 a3 s b 0 q = some true) : ∀ (d k i : Nat), i + d = n → d + 3 ≤ k →
    rotalaw22_SliceEnds.l0 k L left q n t (total L i) i h a1 a2 a3 s b 0 = some true := by
  intro d
  induction d with
  | zero =>
    intro k i hi hk
    obtain ⟨k, rfl⟩ : ∃ m, k = m + 2 := ⟨k - 2, by omega⟩
    obtain rfl : i = n := by omega
    rw [rotalaw22_SliceEnds.l0, if_neg (by omega), if_pos rfl, if_pos t1, if_pos ht, if_pos (by omega), hm k, awake_eq]
    rfl
  | succ d ih =>
    intro k i hi hk
    obtain ⟨k, rfl⟩ : ∃ m, k = m + 1 := ⟨k - 1, by omega⟩
    have o := total_one L (i := i) (by omega)
    have p := total_take L (i + 1) n (by omega) hn
    have z := total_nonneg (L.drop (i + 1)) (fun x hx => hw x (List.mem_of_mem_drop hx)) (n - (i + 1))
    have z1 := total_nonneg L hw (i + 1)
    rw [rotalaw22_SliceEnds.l0, if_pos (by omega), if_pos (by omega), if_pos (by omega), rd_nat, ← o, u64in (total L (i + 1)) z1 (by omega), wrap_up (by omega)]
    exact ih k (i + 1) (by omega) (by omega)
theorem ends_key {L : List Int} (hL : L.length ≤ 9223372036854775807) (hw : ∀ x ∈ L, (Lit.int .u64 x).wf = true) {n : Nat} (hn : n < 18446744073709551616) {h : Bool} {a1 a2 a3 s : Int} {b : Bool} {q : Int} (s0 : 0 ≤ s) (s1 : s < 18446744073709551616)
    (hm : rotaref22_May.f 1 h a1 a2 a3 s b 0 q = some true) : rotalaw22_SliceEnds.j1 (3 * n + 6 + L.length) L n q h a1 a2 a3 s b 0 = some true := by
  have e : 3 * n + 6 + L.length = (3 * n + 5 + L.length) + 1 := by omega
  rw [e, rotalaw22_SliceEnds.j1, run_eq0 hL hw (by omega) hn h a1 a2 a3 b s0 s1]
  simp only [Option.bind_some]
  have hl := irun_len L n h s b
  have hs := irun_slice L n h s b s0
  have ht := irun_total L n h s b
  have st : h = false → irun L n h s b = (0, 0, s, b) := fun h0 => irun_stop (.inl h0)
  generalize irun L n h s b = r at *
  obtain ⟨r1, r2, r3, r4⟩ := r
  simp only at *
  obtain ⟨m1, m2, m3⟩ := may_inv (k := 0) hm
  have t0 : total L 0 = 0 := by cases L <;> rfl
  have hm2 : ∀ m, rotaref22_May.f (m + 1) h a1 a2 a3 r3 r4 0 q = some true := by
    intro m
    cases h with
    | true => exact may_has m a1 a2 a3 r3 r4 q m1 m2 (by omega)
    | false =>
      have := st rfl
      simp only [Prod.mk.injEq] at this
      rw [this.2.2.1, this.2.2.2]
      exact hm
  have fin := ends_sum hw (q := q) (left := (n : Int)) (a1 := a1) (a2 := a2) (a3 := a3) hl.1 hL ht (by omega) (by omega) hm2 r1 (3 * n + 5 + L.length) 0 (by omega) (by omega)
  rw [t0] at fin
  exact fin
theorem SliceEnds : EndsPure := by
  intro h a1 a2 a3 s b c L left q ws wc hL hw wl
  obtain ⟨s0, s1⟩ := u64b ws
  obtain ⟨c0, c1⟩ := u64b wc
  obtain ⟨l0, l1⟩ := u64b wl
  obtain ⟨n, rfl⟩ := Int.eq_ofNat_of_zero_le l0
  refine ⟨3 * n + 7 + L.length, ?_⟩
  have e : 3 * n + 7 + L.length = (3 * n + 6 + L.length) + 1 := by omega
  unfold rotalaw22_SliceEnds.f
  obtain ⟨r, hr⟩ := may_some (3 * n + 6 + L.length) h a1 a2 a3 s b c q
  have other : rotalaw22_SliceEnds.j1 (3 * n + 6 + L.length) L n 4 true 0 0 0 4 false 0 = some true :=
    ends_key hL hw (by omega) (by decide) (by decide) (may_has 0 0 0 0 4 false 4 (by decide) (by decide) (by decide))
  rw [e, hr]
  simp only [Option.bind_some]
  cases r with
  | false =>
    rw [if_neg (by decide), rotalaw22_SliceEnds.j0, if_pos rfl]
    exact other
  | true =>
    rw [if_pos rfl]
    by_cases hc : c > 0
    · have z : decide (c > 0) = true := by simpa using hc
      rw [z, rotalaw22_SliceEnds.j0, if_pos rfl]
      exact other
    · have z : decide (c > 0) = false := by simpa using hc
      obtain rfl : c = 0 := by omega
      rw [z, rotalaw22_SliceEnds.j0, if_neg (by decide)]
      exact ends_key hL hw (by omega) s0 s1 hr
end Go.Proofs.Ytdmfoeokfmgglaa.Pure
