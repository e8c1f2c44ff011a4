/- What Run does in a window it does in two parts of it, where the parts meet between instructions: no condition. -/
import Derived.Test.YtdmfoeokfmgglaaPSliceSplitx
import Derived.Test.YtdmfoeokfmgglaaSl
set_option linter.unusedVariables false
set_option linter.unusedSimpArgs false
namespace Go.Proofs.Ytdmfoeokfmgglaa.Pure
open Go.RowKit Go.Proofs.Ytdmfoeokfmgglaa.PSliceSplit Go.Proofs.YtdmfoeokfmgglaaW.PrintWords Go.Proofs.YtdmfoeokfmgglaaW.PrintLast Go.Proofs.Ytdmfoeokfmgglaa.Sl

theorem awake_eq (k : Nat) : rotalaw22_awake.f (k + 1) = some true := by rfl

theorem begin_yes (k : Nat) (a1 a2 a3 s : Int) (b : Bool) (x : Int) (h1 : 1 ≤ x) (h2 : x ≤ 8) (hs : s ≠ 0) : slice_Begin.f (k + 1) true a1 a2 a3 s b 0 x = some (true, a1, a2, a3, s, true, x, 0) := by
  unfold slice_Begin.f
  rw [if_neg (by omega)]
  have : decide (x > 8) = false := by simp; omega
  rw [this, slice_Begin.j0]
  simp [hs]
theorem begin_no (k : Nat) (h : Bool) (a1 a2 a3 s : Int) (b : Bool) (c x : Int) (hx : ¬ (1 ≤ x ∧ x ≤ 8)) : slice_Begin.f (k + 1) h a1 a2 a3 s b c x = some (h, a1, a2, a3, s, b, c, 1) := by
  unfold slice_Begin.f
  by_cases h1 : x < 1
  · rw [if_pos h1, slice_Begin.j0]; simp
  · rw [if_neg h1]
    have : decide (x > 8) = true := by simp; omega
    rw [this, slice_Begin.j0]; simp

theorem tick_yes (h : Bool) (a1 a2 a3 s : Int) (b : Bool) (c : Int) (s0 : 0 ≤ s) (s1 : s < 18446744073709551616) (c0 : 0 < c) (c1 : c < 18446744073709551616) : slice_Tick.f h a1 a2 a3 s b c = some (h, a1, a2, a3, dec s, b, c - 1, decide (c = 1), 0) := by
  unfold slice_Tick.f
  rw [if_neg (by omega), u64in (c - 1) (by omega) (by omega)]
  have e : s - mn s 1 = dec s := by unfold mn dec; split <;> (first | omega | (split <;> omega))
  have d := dec_bd s0
  rw [e, u64in (dec s) d.1 (by omega)]
  have e2 : (c - 1 == 0) = decide (c = 1) := by rw [Bool.eq_iff_iff]; simp; omega
  rw [e2]

theorem rd_nat (L : List Int) (e : Nat) : rd L (e : Int) = L.getD e 0 := by simp [rd]
theorem wrap_up {e : Nat} (h : e + 1 ≤ 9223372036854775807) : wrap64 ((e : Int) + 1) = ((e + 1 : Nat) : Int) := by unfold wrap64; omega
theorem wrap_in {x : Int} (h0 : 0 ≤ x) (h1 : x < 9223372036854775808) : wrap64 x = x := by unfold wrap64; omega
theorem run_all (L : List Int) (hL : L.length ≤ 9223372036854775807) (hw : ∀ x ∈ L, (Lit.int .u64 x).wf = true) : ∀ (n k e : Nat) (t : Int) (h : Bool) (a1 a2 a3 s : Int) (b : Bool) (c : Int),
    3 * n + 4 ≤ k → (0 < c → e + 1 ≤ 9223372036854775807) → 0 ≤ t → t + n < 18446744073709551616 → 0 ≤ s → s < 18446744073709551616 → 0 ≤ c → c < 18446744073709551616 →
    slice_Run.l0 k L n e t h a1 a2 a3 s b c = some (((fin L n e h s b c).1 : Int), t + ((fin L n e h s b c).2.1 : Int), h, a1, a2, a3, (fin L n e h s b c).2.2.1, (fin L n e h s b c).2.2.2.1, (fin L n e h s b c).2.2.2.2) := by
  intro n
  induction n with
  | zero =>
    intro k e t h a1 a2 a3 s b c hk _ _ _ _ _ _ _
    obtain ⟨k, rfl⟩ : ∃ m, k = m + 1 := ⟨k - 1, by omega⟩
    rw [slice_Run.l0, if_neg (by simp), fin]
    simp
  | succ n ih =>
    intro k e t h a1 a2 a3 s b c hk he t0 t1 s0 s1 c0 c1
    obtain ⟨k, rfl⟩ : ∃ m, k = m + 4 := ⟨k - 4, by omega⟩
    have hr : slice_Run.l0 (k + 4) L ((n + 1 : Nat) : Int) e t h a1 a2 a3 s b c = slice_Run.j1 (k + 3) L ((n + 1 : Nat) : Int) e t (if e < L.length then L.getD e 0 else 0) h a1 a2 a3 s b c := by
      rw [slice_Run.l0, if_pos (by omega)]
      by_cases hlt : e < L.length
      · rw [if_pos (by omega), if_pos (by omega), if_pos hlt, rd_nat]
      · rw [if_neg (by omega), if_neg hlt]
    rw [hr, slice_Run.j1, fin]
    have hx : IntKind.u64.wrap (((n + 1 : Nat) : Int) - 1) = (n : Int) := by
      have : ((n + 1 : Nat) : Int) - 1 = n := by omega
      rw [this, u64in _ (by omega) (by omega)]
    have ht : IntKind.u64.wrap (t + 1) = t + 1 := u64in _ (by omega) (by omega)
    have hd := dec_bd s0
    cases h with
    | false => simp [slice_Decide.f]
    | true =>
      simp only [Bool.true_eq_false, if_false]
      by_cases hc : 0 < c
      · rw [if_pos hc]
        have D : slice_Decide.f true a1 a2 a3 s b c (if e < L.length then L.getD e 0 else 0) ((n + 1 : Nat) : Int) = some 2 := by
          unfold slice_Decide.f; rw [if_pos rfl, if_pos hc]
        rw [D]
        simp only [Option.bind_some]
        rw [if_neg (by decide), if_pos trivial, tick_yes true a1 a2 a3 s b c s0 s1 hc c1]
        simp only [Option.bind_some, decide_eq_true_eq]
        have he := he hc
        rw [hx, ht, wrap_up (by omega)]
        by_cases h1 : c = 1
        · rw [if_pos h1, if_pos h1]
          rw [ih (k + 2) (e + 1) (t + 1) true a1 a2 a3 (dec s) b (c - 1) (by omega) (by omega) (by omega) (by omega) hd.1 (by omega) (by omega) (by omega)]
          unfold onem
          simp; omega
        · rw [if_neg h1, if_neg h1]
          rw [ih (k + 2) e (t + 1) true a1 a2 a3 (dec s) b (c - 1) (by omega) (by omega) (by omega) (by omega) hd.1 (by omega) (by omega) (by omega)]
          unfold onem
          simp; omega
      · obtain rfl : c = 0 := by omega
        rw [if_neg hc]
        by_cases h0 : s = 0
        · rw [if_pos h0]
          subst h0
          simp [slice_Decide.f]
        rw [if_neg h0]
        by_cases hg : goes L e (n + 1)
        · obtain ⟨g1, g2, g3, g4⟩ := hg
          rw [if_pos g1, if_pos (show goes L e (n + 1) from ⟨g1, g2, g3, g4⟩)]
          generalize hx' : L.getD e 0 = x at *
          have D : slice_Decide.f true a1 a2 a3 s b 0 x ((n + 1 : Nat) : Int) = some 5 := by
            unfold slice_Decide.f; rw [if_pos rfl, if_neg (by decide), if_neg h0, if_neg (by omega)]
          rw [D]
          simp only [Option.bind_some]
          rw [if_pos trivial, begin_yes (k + 1) a1 a2 a3 s b x g2 g3 h0]
          simp only [Option.bind_some]
          rw [if_neg (by omega)]
          have z : ((0 : Int) != 0) = false := by decide
          rw [z, slice_Run.j2, if_neg (by decide), tick_yes true a1 a2 a3 s true x s0 s1 (by omega) (by omega)]
          simp only [Option.bind_some, decide_eq_true_eq]
          rw [hx, ht, wrap_up (by omega)]
          by_cases h1 : x = 1
          · rw [if_pos h1, if_pos h1]
            rw [ih (k + 1) (e + 1) (t + 1) true a1 a2 a3 (dec s) true (x - 1) (by omega) (by omega) (by omega) (by omega) hd.1 (by omega) (by omega) (by omega)]
            unfold onem
            simp; omega
          · rw [if_neg h1, if_neg h1]
            rw [ih (k + 1) e (t + 1) true a1 a2 a3 (dec s) true (x - 1) (by omega) (by omega) (by omega) (by omega) hd.1 (by omega) (by omega) (by omega)]
            unfold onem
            simp; omega
        · rw [if_neg hg]
          generalize hx' : (if e < L.length then L.getD e 0 else 0) = x
          by_cases h4 : x > ((n + 1 : Nat) : Int)
          · have D : slice_Decide.f true a1 a2 a3 s b 0 x ((n + 1 : Nat) : Int) = some 4 := by
              unfold slice_Decide.f; rw [if_pos rfl, if_neg (by decide), if_neg h0, if_pos h4]
            rw [D]
            simp
          · have D : slice_Decide.f true a1 a2 a3 s b 0 x ((n + 1 : Nat) : Int) = some 5 := by
              unfold slice_Decide.f; rw [if_pos rfl, if_neg (by decide), if_neg h0, if_neg h4]
            rw [D]
            simp only [Option.bind_some]
            rw [if_pos trivial]
            by_cases hlt : e < L.length
            · rw [if_pos hlt] at hx'
              rw [begin_no (k + 1) true a1 a2 a3 s b 0 x (fun ⟨p, q⟩ => hg ⟨hlt, by omega, by omega, by omega⟩)]
              simp only [Option.bind_some]
              rw [if_neg (by omega)]
              have z : ((1 : Int) != 0) = true := by decide
              rw [z, slice_Run.j2, if_pos rfl]
              simp
            · rw [if_neg hlt] at hx'
              rw [begin_no (k + 1) true a1 a2 a3 s b 0 x (by omega)]
              simp only [Option.bind_some]
              rw [if_pos (by omega), slice_Run.j2, if_pos rfl]
              simp
/-- Run, from any processor. -/
theorem run_eq {L : List Int} (hL : L.length ≤ 9223372036854775807) (hw : ∀ x ∈ L, (Lit.int .u64 x).wf = true) {n k : Nat} (hk : 3 * n + 4 ≤ k) (hn : n < 18446744073709551616) (h : Bool) (a1 a2 a3 : Int) {s : Int} (b : Bool) {c : Int} (s0 : 0 ≤ s) (s1 : s < 18446744073709551616) (c0 : 0 ≤ c) (c1 : c < 18446744073709551616) :
    slice_Run.f k h a1 a2 a3 s b c L n = some (((fin L n 0 h s b c).1 : Int), ((fin L n 0 h s b c).2.1 : Int), h, a1, a2, a3, (fin L n 0 h s b c).2.2.1, (fin L n 0 h s b c).2.2.2.1, (fin L n 0 h s b c).2.2.2.2) := by
  have := run_all L hL hw n k 0 0 h a1 a2 a3 s b c hk (fun _ => by omega) (by omega) (by omega) s0 s1 c0 c1
  unfold slice_Run.f
  simpa using this
/-- Run, from between two instructions. -/
theorem run_eq0 {L : List Int} (hL : L.length ≤ 9223372036854775807) (hw : ∀ x ∈ L, (Lit.int .u64 x).wf = true) {n k : Nat} (hk : 3 * n + 4 ≤ k) (hn : n < 18446744073709551616) (h : Bool) (a1 a2 a3 : Int) {s : Int} (b : Bool) (s0 : 0 ≤ s) (s1 : s < 18446744073709551616) :
    slice_Run.f k h a1 a2 a3 s b 0 L n = some (((irun L n h s b).1 : Int), ((irun L n h s b).2.1 : Int), h, a1, a2, a3, (irun L n h s b).2.2.1, (irun L n h s b).2.2.2, 0) := by
  rw [run_eq hL hw hk hn h a1 a2 a3 b s0 s1 (by omega) (by omega), fin_irun L n 0 h s b s0]
  simp

theorem far_eq {L : List Int} (hL : L.length ≤ 140737488351232) {n : Int} (n0 : 0 ≤ n) : ∃ m : Nat, (m : Int) ≤ n ∧ rotalaw22_far.f n L = some (m : Int) := by
  unfold rotalaw22_far.f
  have e : wrap64 ((L.length : Int) + 2) = (L.length : Int) + 2 := by unfold wrap64; omega
  rw [e, u64in ((L.length : Int) + 2) (by omega) (by omega), u64in (((L.length : Int) + 2) * 8) (by omega) (by omega)]
  by_cases h : n > ((L.length : Int) + 2) * 8
  · rw [if_pos h]; exact ⟨(((L.length : Int) + 2) * 8).toNat, by omega, by rw [Int.toNat_of_nonneg (by omega)]⟩
  · rw [if_neg h]; exact ⟨n.toNat, by omega, by rw [Int.toNat_of_nonneg n0]⟩

theorem bind_of {α β : Type} {o : Option α} {a : α} {f : α → Option β} {r : Option β} (h : o = some a) (hf : f a = r) : o.bind f = r := by rw [h]; exact hf
theorem split_all {L : List Int} (hL : L.length ≤ 140737488351232) (hw : ∀ x ∈ L, (Lit.int .u64 x).wf = true) (h : Bool) (a1 a2 a3 : Int) {s : Int} (b : Bool) (s0 : 0 ≤ s) (s1 : s < 18446744073709551616) {n : Nat} (hn : n < 18446744073709551616) :
    ∀ (d k i : Nat), i + d = (irun L n h s b).1 + 1 → 3 * n + 6 + d ≤ k →
    rotalaw22_SliceSplit.l0 k L n ((irun L n h s b).1 : Int) ((irun L n h s b).2.1 : Int) i h a1 a2 a3 s b 0 h a1 a2 a3 (irun L n h s b).2.2.1 (irun L n h s b).2.2.2 0 = some true := by
  have hl := irun_len L n h s b
  intro d
  induction d with
  | zero =>
    intro k i hi hk
    obtain ⟨k, rfl⟩ : ∃ m, k = m + 2 := ⟨k - 2, by omega⟩
    rw [rotalaw22_SliceSplit.l0, if_neg (by omega)]
    exact bind_of (awake_eq k) rfl
  | succ d ih =>
    intro k i hi hk
    obtain ⟨k, rfl⟩ : ∃ m, k = m + 1 := ⟨k - 1, by omega⟩
    obtain ⟨i1, i2, i3, i4, i5⟩ := irun_split L n h s b i (by omega)
    have hs := irun_slice (L.take i) n h s b s0
    have t1 : (L.take i).length ≤ 140737488351232 := by rw [List.length_take]; omega
    have t2 : ∀ x ∈ L.take i, (Lit.int .u64 x).wf = true := fun x hx => hw x (List.mem_of_mem_take hx)
    have t3 : ∀ x ∈ L.drop i, (Lit.int .u64 x).wf = true := fun x hx => hw x (List.mem_of_mem_drop hx)
    have t4 : (L.drop i).length ≤ 140737488351232 := by rw [List.length_drop]; omega
    have G1 : rotalaw22_SliceSplit.l0 k L n ((irun L n h s b).1 : Int) ((irun L n h s b).2.1 : Int) (wrap64 ((i : Int) + 1)) h a1 a2 a3 s b 0 h a1 a2 a3 (irun L n h s b).2.2.1 (irun L n h s b).2.2.2 0 = some true := by
      rw [wrap_up (by omega)]
      exact ih k (i + 1) (by omega) (by omega)
    clear ih
    have e1 : ((i : Nat) : Int).toNat = i := by omega
    have R1 := run_eq0 (L := L.take i) (k := k) (n := n) (by omega) t2 (by omega) hn h a1 a2 a3 b s0 s1
    have R2 := run_eq0 (L := L.drop i) (k := k) (n := n - (irun (L.take i) n h s b).2.1) (by omega) t3 (by omega) (by omega) h a1 a2 a3 (s := (irun (L.take i) n h s b).2.2.1) (irun (L.take i) n h s b).2.2.2 hs.1 (by omega)
    have e2 : IntKind.u64.wrap ((n : Int) - ((irun (L.take i) n h s b).2.1 : Int)) = ((n - (irun (L.take i) n h s b).2.1 : Nat) : Int) := by
      rw [u64in _ (by omega) (by omega)]; omega
    have c1 : (i : Int) ≤ ((irun L n h s b).1 : Int) := by omega
    have c2 : (i : Int) ≤ (L.length : Int) := by omega
    rw [rotalaw22_SliceSplit.l0, if_pos c1, if_pos (show (0 : Int) ≤ (i : Int) by omega), if_pos c2, G1, e1]
    clear G1
    generalize slice_Run.f k = F at R1 R2 ⊢
    rw [R1]
    clear R1
    rw [← e2] at R2
    generalize irun (L.drop i) (n - (irun (L.take i) n h s b).2.1) h (irun (L.take i) n h s b).2.2.1 (irun (L.take i) n h s b).2.2.2 = z at *
    generalize irun (L.take i) n h s b = q at *
    generalize irun L n h s b = r at *
    obtain ⟨q1, q2, q3, q4⟩ := q
    obtain ⟨z1, z2, z3, z4⟩ := z
    obtain ⟨r1, r2, r3, r4⟩ := r
    simp only at *
    subst i1
    have e3 : wrap64 ((q1 : Int) + (z1 : Int)) = (r1 : Int) := by
      rw [wrap_in (by omega) (by omega)]; omega
    have e4 : IntKind.u64.wrap ((q2 : Int) + (z2 : Int)) = (r2 : Int) := by
      rw [u64in _ (by omega) (by omega)]; omega
    obtain ⟨rfl, rfl⟩ : z3 = r3 ∧ z4 = r4 := by simpa using i5
    simp only [Option.bind_some]
    rw [if_pos (Int.natCast_nonneg q1), if_pos c2, e1]
    refine bind_of R2 ?_
    refine (if_pos trivial).trans ((if_pos e3).trans ((if_pos e4).trans (if_neg ?_)))
    simp
theorem SliceSplit : rotalaw22_SliceSplit.Pure := by
  intro h a1 a2 a3 s b c L left w1 w2 w3 ws wc hm hL hw wl
  obtain ⟨s0, s1⟩ := u64b ws
  obtain ⟨c0, c1⟩ := u64b wc
  obtain ⟨l0, l1⟩ := u64b wl
  have hL' : L.length ≤ 140737488351232 := by omega
  obtain ⟨n, hmn, hf⟩ := far_eq hL' l0
  have hl := irun_len L n h s b
  refine ⟨3 * n + 20 + L.length, ?_⟩
  have key : rotalaw22_SliceSplit.j0 (3 * n + 20 + L.length) L left h a1 a2 a3 s b 0 = some true := by
    have e : 3 * n + 20 + L.length = (3 * n + 18 + L.length) + 1 + 1 := by omega
    rw [e, rotalaw22_SliceSplit.j0, hf]
    simp only [Option.bind_some]
    rw [run_eq0 (by omega) hw (by omega) (by omega) h a1 a2 a3 b s0 s1]
    simp only [Option.bind_some]
    rw [if_neg (by omega)]
    have z : decide (((irun L n h s b).2.1 : Int) > (n : Int)) = false := by simp; omega
    rw [z, rotalaw22_SliceSplit.j1, if_neg (by decide)]
    exact split_all hL' hw h a1 a2 a3 b s0 s1 (by omega) ((irun L n h s b).1 + 1) _ 0 (by omega) (by omega)
  unfold rotalaw22_SliceSplit.f
  by_cases hc : c > 0
  · rw [if_pos hc]; exact key
  · obtain rfl : c = 0 := by omega
    rw [if_neg hc]; exact key
end Go.Proofs.Ytdmfoeokfmgglaa.Pure
