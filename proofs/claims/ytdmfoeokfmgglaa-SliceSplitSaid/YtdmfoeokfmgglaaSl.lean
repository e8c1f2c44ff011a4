/- The plain law of a slice: instructions that begin and go on, tick by tick and one by one: no Go in it. -/
import Derived.Laws.BitsLemmas
import GoSem.Claim
namespace Go.Proofs.Ytdmfoeokfmgglaa.Sl

theorem u64w (n : Int) : IntKind.u64.wrap n = n % 18446744073709551616 := by simp [IntKind.wrap, IntKind.bits, IntKind.signed]
theorem u64in (n : Int) (h0 : 0 ≤ n) (h1 : n < 18446744073709551616) : IntKind.u64.wrap n = n := by rw [u64w]; omega
theorem u64b {n : Int} (h : (Lit.int .u64 n).wf = true) : 0 ≤ n ∧ n < 18446744073709551616 := by
  simp [Lit.wf, IntKind.min, IntKind.max, IntKind.bits, IntKind.signed] at h
  omega

def dec (s : Int) : Int := if s = 0 then 0 else s - 1
theorem dec_bd {s : Int} (h : 0 ≤ s) : 0 ≤ dec s ∧ dec s ≤ s := by unfold dec; split <;> omega
def onem (r : Nat × Nat × Int × Bool × Int) : Nat × Nat × Int × Bool × Int := (r.1, r.2.1 + 1, r.2.2)
/-- May the next instruction begin? -/
def goes (L : List Int) (e n : Nat) : Prop := e < L.length ∧ 1 ≤ L.getD e 0 ∧ L.getD e 0 ≤ 8 ∧ L.getD e 0 ≤ n
instance (L : List Int) (e n : Nat) : Decidable (goes L e n) := by unfold goes; exact inferInstance
/-- What Run does within n ticks: how many are ended, how many ticks pass, the slice, whether one has begun, the course. -/
def fin (L : List Int) : Nat → Nat → Bool → Int → Bool → Int → Nat × Nat × Int × Bool × Int
  | 0, e, _, s, b, c => (e, 0, s, b, c)
  | n + 1, e, h, s, b, c =>
    if h = false then (e, 0, s, b, c)
    else if 0 < c then onem (fin L n (if c = 1 then e + 1 else e) h (dec s) b (c - 1))
    else if s = 0 then (e, 0, s, b, c)
    else if goes L e (n + 1) then onem (fin L n (if L.getD e 0 = 1 then e + 1 else e) h (dec s) true (L.getD e 0 - 1))
    else (e, 0, s, b, c)

/-! ### Instruction by instruction -/
def irun : List Int → Nat → Bool → Int → Bool → Nat × Nat × Int × Bool
  | [], _, _, s, b => (0, 0, s, b)
  | x :: xs, n, h, s, b =>
    if h = true ∧ s ≠ 0 ∧ 1 ≤ x ∧ x ≤ 8 ∧ x ≤ n then
      ((irun xs (n - x.toNat) h (if s ≤ x then 0 else s - x) true).1 + 1, (irun xs (n - x.toNat) h (if s ≤ x then 0 else s - x) true).2.1 + x.toNat, (irun xs (n - x.toNat) h (if s ≤ x then 0 else s - x) true).2.2)
    else (0, 0, s, b)

/-- An instruction in course that ends within what is left. -/
theorem fin_course (L : List Int) : ∀ (m n e : Nat) (s : Int) (b : Bool), 0 < m → m ≤ n → 0 ≤ s →
    fin L n e true s b (m : Int) = ((fin L (n - m) (e + 1) true (if s ≤ m then 0 else s - m) b 0).1, (fin L (n - m) (e + 1) true (if s ≤ m then 0 else s - m) b 0).2.1 + m, (fin L (n - m) (e + 1) true (if s ≤ m then 0 else s - m) b 0).2.2) := by
  intro m
  induction m with
  | zero => intro n e s b h; omega
  | succ m ih =>
    intro n e s b _ hn hs
    obtain ⟨n, rfl⟩ : ∃ z, n = z + 1 := ⟨n - 1, by omega⟩
    rw [fin]
    have hd := dec_bd hs
    by_cases hm : m = 0
    · subst hm
      have e1 : dec s = if s ≤ ((0 + 1 : Nat) : Int) then 0 else s - ((0 + 1 : Nat) : Int) := by unfold dec; split <;> split <;> omega
      simp only [Bool.true_eq_false, if_false]
      rw [if_pos (by omega), if_pos (by omega), e1]
      have e2 : ((0 + 1 : Nat) : Int) - 1 = 0 := by omega
      have e3 : n + 1 - (0 + 1) = n := by omega
      rw [e2, e3]
      rfl
    · simp only [Bool.true_eq_false, if_false]
      rw [if_pos (by omega), if_neg (by omega)]
      have e2 : ((m + 1 : Nat) : Int) - 1 = (m : Int) := by omega
      have e3 : n + 1 - (m + 1) = n - m := by omega
      have e1 : (if dec s ≤ (m : Int) then 0 else dec s - (m : Int)) = if s ≤ ((m + 1 : Nat) : Int) then 0 else s - ((m + 1 : Nat) : Int) := by
        unfold dec; split <;> split <;> split <;> omega
      rw [e2, e3, ih n e (dec s) b (by omega) (by omega) hd.1, e1]
      rfl

theorem irun_stop {xs : List Int} {n : Nat} {h : Bool} {s : Int} {b : Bool} (hs : h = false ∨ s = 0 ∨ n = 0) : irun xs n h s b = (0, 0, s, b) := by
  cases xs with
  | nil => rfl
  | cons x xs =>
    rw [irun, if_neg]
    rintro ⟨h1, h2, h3, h4, h5⟩
    rcases hs with hs | hs | hs
    · rw [hs] at h1; cases h1
    · exact h2 hs
    · subst hs; omega

/-- From between two instructions on. -/
theorem fin_irun (L : List Int) : ∀ (n e : Nat) (h : Bool) (s : Int) (b : Bool), 0 ≤ s →
    fin L n e h s b 0 = (e + (irun (L.drop e) n h s b).1, (irun (L.drop e) n h s b).2.1, (irun (L.drop e) n h s b).2.2.1, (irun (L.drop e) n h s b).2.2.2, 0) := by
  intro n
  induction n using Nat.strongRecOn with
  | _ n ih =>
    intro e h s b hs
    cases n with
    | zero => rw [irun_stop (.inr (.inr rfl))]; rfl
    | succ n =>
      rw [fin]
      cases h with
      | false => rw [irun_stop (.inl rfl)]; rfl
      | true =>
        simp only [Bool.true_eq_false, if_false]
        rw [if_neg (by decide)]
        by_cases h0 : s = 0
        · rw [if_pos h0, irun_stop (.inr (.inl h0))]; rfl
        rw [if_neg h0]
        by_cases hg : goes L e (n + 1)
        · rw [if_pos hg]
          obtain ⟨g1, g2, g3, g4⟩ := hg
          have hd : L.drop e = L.getD e 0 :: L.drop (e + 1) := by
            rw [List.drop_eq_getElem_cons g1]
            simp [List.getD, List.getElem?_eq_getElem g1]
          rw [hd]
          generalize L.getD e 0 = x at *
          have E : irun (x :: L.drop (e + 1)) (n + 1) true s b = ((irun (L.drop (e + 1)) (n + 1 - x.toNat) true (if s ≤ x then 0 else s - x) true).1 + 1, (irun (L.drop (e + 1)) (n + 1 - x.toNat) true (if s ≤ x then 0 else s - x) true).2.1 + x.toNat, (irun (L.drop (e + 1)) (n + 1 - x.toNat) true (if s ≤ x then 0 else s - x) true).2.2) := by
            rw [irun, if_pos ⟨rfl, h0, g2, g3, by omega⟩]
          rw [E]
          clear E
          obtain ⟨m, rfl⟩ : ∃ m : Nat, x = m := ⟨x.toNat, by omega⟩
          have hdb := dec_bd hs
          by_cases hm : m = 1
          · subst hm
            have e0 : dec s = if s ≤ ((1 : Nat) : Int) then 0 else s - ((1 : Nat) : Int) := by unfold dec; split <;> split <;> omega
            rw [if_pos (show ((1 : Nat) : Int) = 1 by rfl)]
            have e1 : ((1 : Nat) : Int) - 1 = 0 := by omega
            have e2 : n + 1 - ((1 : Nat) : Int).toNat = n := by simp
            rw [e1, ih n (by omega) (e + 1) true (dec s) true hdb.1, e0, e2]
            unfold onem
            simp; omega
          · rw [if_neg (by omega)]
            obtain ⟨p, rfl⟩ : ∃ p, m = p + 1 := ⟨m - 1, by omega⟩
            have e1 : ((p + 1 : Nat) : Int) - 1 = (p : Int) := by omega
            have e2 : n + 1 - ((p + 1 : Nat) : Int).toNat = n - p := by rw [Int.toNat_natCast]; omega
            have e3 : (if dec s ≤ (p : Int) then 0 else dec s - (p : Int)) = if s ≤ ((p + 1 : Nat) : Int) then 0 else s - ((p + 1 : Nat) : Int) := by
              unfold dec; split <;> split <;> split <;> omega
            rw [e1, fin_course L p n e (dec s) true (by omega) (by omega) hdb.1, e2, e3]
            rw [ih (n - p) (by omega) (e + 1) true _ true (by split <;> omega)]
            unfold onem
            simp only [Int.toNat_natCast, Prod.mk.injEq, and_true]
            omega
        · rw [if_neg hg]
          have hi : irun (L.drop e) (n + 1) true s b = (0, 0, s, b) := by
            by_cases g1 : e < L.length
            · have hd : L.drop e = L.getD e 0 :: L.drop (e + 1) := by
                rw [List.drop_eq_getElem_cons g1]
                simp [List.getD, List.getElem?_eq_getElem g1]
              rw [hd, irun, if_neg]
              rintro ⟨_, _, g2, g3, g4⟩
              exact hg ⟨g1, g2, g3, by omega⟩
            · rw [List.drop_eq_nil_of_le (by omega)]; rfl
          rw [hi]; rfl

/-! ### What follows -/
theorem irun_len : ∀ (xs : List Int) (n : Nat) (h : Bool) (s : Int) (b : Bool), (irun xs n h s b).1 ≤ xs.length ∧ (irun xs n h s b).2.1 ≤ n := by
  intro xs
  induction xs with
  | nil => intro n h s b; simp [irun]
  | cons x xs ih =>
    intro n h s b
    rw [irun]
    split
    · rename_i hg
      have := ih (n - x.toNat) h (if s ≤ x then 0 else s - x) true
      simp only [List.length_cons]
      omega
    · simp
/-- As many ticks as the costs of those that ended. -/
def total : List Int → Nat → Int
  | [], _ => 0
  | _ :: _, 0 => 0
  | x :: xs, k + 1 => x + total xs k
theorem irun_total : ∀ (xs : List Int) (n : Nat) (h : Bool) (s : Int) (b : Bool), ((irun xs n h s b).2.1 : Int) = total xs (irun xs n h s b).1 := by
  intro xs
  induction xs with
  | nil => intro n h s b; rfl
  | cons x xs ih =>
    intro n h s b
    rw [irun]
    split
    · rename_i hg
      have := ih (n - x.toNat) h (if s ≤ x then 0 else s - x) true
      simp only [total]
      omega
    · rfl
theorem total_take (xs : List Int) : ∀ (j k : Nat), j ≤ k → k ≤ xs.length → total xs k = total xs j + total (xs.drop j) (k - j) := by
  induction xs with
  | nil => intro j k h1 h2; simp at h2; subst h2; simp [total]
  | cons x xs ih =>
    intro j k h1 h2
    cases j with
    | zero => simp [total]
    | succ j =>
      cases k with
      | zero => omega
      | succ k =>
        simp at h2
        have := ih j k (by omega) (by omega)
        simp only [total, List.drop_succ_cons]
        have e : k + 1 - (j + 1) = k - j := by omega
        rw [e]; omega
/-- The slice and who has begun, behind it. -/
theorem irun_slice : ∀ (xs : List Int) (n : Nat) (h : Bool) (s : Int) (b : Bool), 0 ≤ s →
    0 ≤ (irun xs n h s b).2.2.1 ∧ (irun xs n h s b).2.2.1 ≤ s ∧ ((irun xs n h s b).2.2.1 ≠ 0 → ((irun xs n h s b).2.1 : Int) + (irun xs n h s b).2.2.1 = s) ∧
      ((irun xs n h s b).2.2.1 = 0 → s ≤ (irun xs n h s b).2.1) ∧ ((irun xs n h s b).2.1 : Int) < s + 8 ∧ (s = 0 → (irun xs n h s b).2.1 = 0) ∧
      (irun xs n h s b).2.2.2 = (b || decide (0 < (irun xs n h s b).2.1)) ∧ (h = false → (irun xs n h s b).2.1 = 0) := by
  intro xs
  induction xs with
  | nil => intro n h s b hs; simp [irun]; omega
  | cons x xs ih =>
    intro n h s b hs
    rw [irun]
    split
    · rename_i hg
      obtain ⟨g1, g2, g3, g4, g5⟩ := hg
      have := ih (n - x.toNat) h (if s ≤ x then 0 else s - x) true (by split <;> omega)
      generalize irun xs (n - x.toNat) h (if s ≤ x then 0 else s - x) true = r at *
      obtain ⟨r1, r2, r3, r4⟩ := r
      simp only at *
      obtain ⟨i1, i2, i3, i4, i5, i6, i7, i8⟩ := this
      have p : 0 < r2 + x.toNat := by omega
      refine ⟨i1, ?_, ?_, ?_, ?_, by omega, ?_, ?_⟩
      · split at i2 <;> omega
      · intro h; have := i3 h; split at this <;> omega
      · intro h; have := i4 h; split at this <;> omega
      · split at i5
        · have : r2 = 0 := i6 (by rw [if_pos ‹_›])
          omega
        · omega
      · rw [i7]; simp [p]
      · intro h0; rw [h0] at g1; cases g1
    · simp; omega
/-- The parts: of the first i, where i is at most what ends. -/
theorem irun_split : ∀ (xs : List Int) (n : Nat) (h : Bool) (s : Int) (b : Bool) (i : Nat), i ≤ (irun xs n h s b).1 →
    (irun (xs.take i) n h s b).1 = i ∧ (irun (xs.take i) n h s b).2.1 ≤ n ∧
      i + (irun (xs.drop i) (n - (irun (xs.take i) n h s b).2.1) h (irun (xs.take i) n h s b).2.2.1 (irun (xs.take i) n h s b).2.2.2).1 = (irun xs n h s b).1 ∧
      (irun (xs.take i) n h s b).2.1 + (irun (xs.drop i) (n - (irun (xs.take i) n h s b).2.1) h (irun (xs.take i) n h s b).2.2.1 (irun (xs.take i) n h s b).2.2.2).2.1 = (irun xs n h s b).2.1 ∧
      (irun (xs.drop i) (n - (irun (xs.take i) n h s b).2.1) h (irun (xs.take i) n h s b).2.2.1 (irun (xs.take i) n h s b).2.2.2).2.2 = (irun xs n h s b).2.2 := by
  intro xs
  induction xs with
  | nil => intro n h s b i hi; simp [irun] at hi; subst hi; simp [irun]
  | cons x xs ih =>
    intro n h s b i hi
    cases i with
    | zero => simp [irun]
    | succ i =>
      rw [List.take_succ_cons, List.drop_succ_cons]
      by_cases hg : h = true ∧ s ≠ 0 ∧ 1 ≤ x ∧ x ≤ 8 ∧ x ≤ n
      · have E : irun (x :: xs) n h s b = ((irun xs (n - x.toNat) h (if s ≤ x then 0 else s - x) true).1 + 1, (irun xs (n - x.toNat) h (if s ≤ x then 0 else s - x) true).2.1 + x.toNat, (irun xs (n - x.toNat) h (if s ≤ x then 0 else s - x) true).2.2) := by
          rw [irun, if_pos hg]
        have E2 : irun (x :: xs.take i) n h s b = ((irun (xs.take i) (n - x.toNat) h (if s ≤ x then 0 else s - x) true).1 + 1, (irun (xs.take i) (n - x.toNat) h (if s ≤ x then 0 else s - x) true).2.1 + x.toNat, (irun (xs.take i) (n - x.toNat) h (if s ≤ x then 0 else s - x) true).2.2) := by
          rw [irun, if_pos hg]
        rw [E] at hi ⊢
        rw [E2]
        simp only at hi ⊢
        obtain ⟨i1, i2, i3, i4, i5⟩ := ih (n - x.toNat) h (if s ≤ x then 0 else s - x) true i (by omega)
        generalize irun xs (n - x.toNat) h (if s ≤ x then 0 else s - x) true = r at *
        generalize irun (xs.take i) (n - x.toNat) h (if s ≤ x then 0 else s - x) true = q at *
        have e : n - (q.2.1 + x.toNat) = n - x.toNat - q.2.1 := by omega
        rw [e]
        generalize irun (xs.drop i) (n - x.toNat - q.2.1) h q.2.2.1 q.2.2.2 = z at *
        refine ⟨by omega, by omega, by omega, by omega, i5⟩
      · rw [irun, if_neg hg] at hi
        simp at hi
end Go.Proofs.Ytdmfoeokfmgglaa.Sl
