/- The plain arithmetic of frames and windows: no Go in it. -/
import Derived.Laws.BitsLemmas
import GoSem.Claim
namespace Go.Proofs.Ytafgilnjggindaa.Tk

theorem u64w (n : Int) : IntKind.u64.wrap n = n % 18446744073709551616 := by simp [IntKind.wrap, IntKind.bits, IntKind.signed]
theorem u64in (n : Int) (h0 : 0 ≤ n) (h1 : n < 18446744073709551616) : IntKind.u64.wrap n = n := by rw [u64w]; omega
theorem u64b {n : Int} (h : (Lit.int .u64 n).wf = true) : 0 ≤ n ∧ n < 18446744073709551616 := by
  simp [Lit.wf, IntKind.min, IntKind.max, IntKind.bits, IntKind.signed] at h
  omega
theorem tmod_pos {a b : Int} (ha : 0 ≤ a) : Int.tmod a b = a % b := Int.tmod_eq_emod_of_nonneg ha
theorem tdiv_pos {a b : Int} (ha : 0 ≤ a) : Int.tdiv a b = a / b := Int.tdiv_eq_ediv_of_nonneg ha

/-- How many ticks below t are inside. -/
def cnt (t F S L : Int) : Int := t / F * L + (if t % F ≤ S then 0 else if L ≤ t % F - S then L else t % F - S)
/-- Is t inside? -/
def ins (t F S L : Int) : Bool := decide (S ≤ t % F) && decide (t % F - S < L)
theorem ins_true {t F S L : Int} : ins t F S L = true ↔ S ≤ t % F ∧ t % F - S < L := by simp [ins]
theorem ins_false {t F S L : Int} : ins t F S L = false ↔ ¬ (S ≤ t % F ∧ t % F - S < L) := by rw [← ins_true]; simp
/-- A window that may be. -/
structure Ok (F S L : Int) : Prop where
  f0 : 0 < F
  s0 : 0 ≤ S
  l1 : 1 ≤ L
  fit : S + L ≤ F

theorem next_low {t F : Int} (hF : 0 < F) (h : t % F + 1 < F) : (t + 1) / F = t / F ∧ (t + 1) % F = t % F + 1 := by
  have e := Int.emod_add_mul_ediv t F
  have h0 := Int.emod_nonneg t (Int.ne_of_gt hF)
  have e1 : t + 1 = (t % F + 1) + F * (t / F) := by omega
  refine ⟨?_, ?_⟩
  · rw [e1, Int.add_mul_ediv_left _ _ (Int.ne_of_gt hF), Int.ediv_eq_zero_of_lt (by omega) h]; omega
  · rw [e1, Int.add_mul_emod_self_left, Int.emod_eq_of_lt (by omega) h]

theorem next_high {t F : Int} (hF : 0 < F) (h : ¬ t % F + 1 < F) : (t + 1) / F = t / F + 1 ∧ (t + 1) % F = 0 := by
  have e := Int.emod_add_mul_ediv t F
  have h1 := Int.emod_lt_of_pos t hF
  have e1 : t + 1 = 0 + F * (t / F + 1) := by rw [Int.mul_add]; omega
  refine ⟨?_, ?_⟩
  · rw [e1, Int.add_mul_ediv_left _ _ (Int.ne_of_gt hF)]; simp
  · rw [e1, Int.add_mul_emod_self_left]; simp

theorem cnt_step {t F S L : Int} (o : Ok F S L) : cnt (t + 1) F S L = cnt t F S L + (if ins t F S L then 1 else 0) := by
  obtain ⟨f0, s0, l1, fit⟩ := o
  have h0 := Int.emod_nonneg t (Int.ne_of_gt f0)
  have h1 := Int.emod_lt_of_pos t f0
  unfold cnt ins
  by_cases h : t % F + 1 < F
  · obtain ⟨e1, e2⟩ := next_low f0 h
    rw [e1, e2]
    generalize t / F * L = z
    generalize t % F = r at *
    simp only [Bool.and_eq_true, decide_eq_true_eq]
    repeat' split
    all_goals omega
  · obtain ⟨e1, e2⟩ := next_high f0 h
    rw [e1, e2, Int.add_mul]
    generalize t / F * L = z
    generalize t % F = r at *
    simp only [Bool.and_eq_true, decide_eq_true_eq]
    repeat' split
    all_goals omega

theorem cnt_zero {F S L : Int} (o : Ok F S L) : cnt 0 F S L = 0 := by
  have := o.s0
  simp [cnt, this]

theorem cnt_span {F S L : Int} (o : Ok F S L) (t : Int) (n : Nat) : 0 ≤ cnt (t + n) F S L - cnt t F S L ∧ cnt (t + n) F S L - cnt t F S L ≤ n := by
  induction n with
  | zero => simp
  | succ n ih =>
    have := cnt_step (t := t + n) o
    have e : t + ((n + 1 : Nat) : Int) = t + n + 1 := by omega
    rw [e, this]
    split <;> omega
theorem cnt_mono {F S L : Int} (o : Ok F S L) {t u : Int} (h : t ≤ u) : 0 ≤ cnt u F S L - cnt t F S L ∧ cnt u F S L - cnt t F S L ≤ u - t := by
  have := cnt_span o t (u - t).toNat
  have e : t + ((u - t).toNat : Int) = u := by omega
  rw [e] at this
  omega
theorem cnt_bd {F S L : Int} (o : Ok F S L) {t : Int} (h : 0 ≤ t) : 0 ≤ cnt t F S L ∧ cnt t F S L ≤ t := by
  have := cnt_mono o h
  rw [cnt_zero o] at this
  omega
theorem base_bd {F S L : Int} (o : Ok F S L) {t : Int} (h : 0 ≤ t) : 0 ≤ t / F * L ∧ t / F * L ≤ t := by
  obtain ⟨f0, s0, l1, fit⟩ := o
  have q0 : 0 ≤ t / F := Int.ediv_nonneg h (by omega)
  have e := Int.emod_add_mul_ediv t F
  have h0 := Int.emod_nonneg t (Int.ne_of_gt f0)
  have m : t / F * L ≤ t / F * F := Int.mul_le_mul_of_nonneg_left (by omega) q0
  have z : 0 ≤ t / F * L := Int.mul_nonneg q0 (by omega)
  rw [Int.mul_comm F] at e
  omega
theorem cnt_cases {F S L : Int} (t : Int) : cnt t F S L = t / F * L + (if t % F ≤ S then 0 else if L ≤ t % F - S then L else t % F - S) := rfl
/-- A whole frame on. -/
theorem cnt_frame {F S L : Int} (o : Ok F S L) (t : Int) : cnt (t + F) F S L = cnt t F S L + L := by
  have hF := o.f0
  have e1 : (t + F) / F = t / F + 1 := by
    have := Int.add_mul_ediv_left t 1 (Int.ne_of_gt hF)
    simpa using this
  have e2 : (t + F) % F = t % F := by simp
  unfold cnt
  rw [e1, e2, Int.add_mul]
  generalize t / F * L = z
  omega
/-- Where the number i lies. -/
theorem at_nth {F S L : Int} (o : Ok F S L) (i : Int) : cnt (i / L * F + (S + i % L)) F S L = i ∧ ins (i / L * F + (S + i % L)) F S L = true := by
  obtain ⟨f0, s0, l1, fit⟩ := o
  have r0 := Int.emod_nonneg i (Int.ne_of_gt (show 0 < L from l1))
  have r1 := Int.emod_lt_of_pos i (show 0 < L from l1)
  have e : i / L * F + (S + i % L) = (S + i % L) + F * (i / L) := by rw [Int.mul_comm]; omega
  have e1 : (i / L * F + (S + i % L)) / F = i / L := by
    rw [e, Int.add_mul_ediv_left _ _ (Int.ne_of_gt f0), Int.ediv_eq_zero_of_lt (by omega) (by omega)]; omega
  have e2 : (i / L * F + (S + i % L)) % F = S + i % L := by
    rw [e, Int.add_mul_emod_self_left, Int.emod_eq_of_lt (by omega) (by omega)]
  have d := Int.emod_add_mul_ediv i L
  rw [Int.mul_comm] at d
  refine ⟨?_, ?_⟩
  · unfold cnt
    rw [e1, e2]
    generalize i / L * L = z at *
    split
    · omega
    · split <;> omega
  · rw [ins_true, e2]; omega
/-- Left goes on till the window's end, or not at all. -/
theorem left_run {F S L t : Int} (o : Ok F S L) (hin : ins t F S L = true) : ∀ n : Nat, t % F + n ≤ S + L → cnt (t + n) F S L = cnt t F S L + n ∧ (t % F + n < F → (t + n) % F = t % F + n) := by
  have ⟨f0, s0, l1, fit⟩ := o
  rw [ins_true] at hin
  intro n
  induction n with
  | zero => intro _; simp
  | succ n ih =>
    intro hn
    obtain ⟨c, m⟩ := ih (by omega)
    have m := m (by omega)
    have e : t + ((n + 1 : Nat) : Int) = t + n + 1 := by omega
    have i : ins (t + n) F S L = true := by rw [ins_true, m]; omega
    refine ⟨?_, ?_⟩
    · rw [e, cnt_step o, c, i]; simp; omega
    · intro hlt
      rw [e, (next_low f0 (by omega)).2, m]; omega
theorem left_end {F S L t : Int} (o : Ok F S L) (hin : ins t F S L = true) (hne : L ≠ F) : ins (t + (S + L - t % F)) F S L = false := by
  have ⟨f0, s0, l1, fit⟩ := o
  have hin' := ins_true.1 hin
  rw [ins_false]
  have := (left_run o hin (S + L - 1 - t % F).toNat (by omega)).2 (by omega)
  have e : t + (((S + L - 1 - t % F).toNat : Nat) : Int) = t + (S + L - t % F) - 1 := by omega
  rw [e] at this
  have e2 : t + (S + L - t % F) = (t + (S + L - t % F) - 1) + 1 := by omega
  by_cases h : S + L < F
  · rw [e2, (next_low f0 (by omega)).2]; omega
  · rw [e2, (next_high f0 (by omega)).2]; omega

/-! ### Numbers of 128 bits -/
theorem and32 (x : Int) (h0 : 0 ≤ x) (h1 : x < 18446744073709551616) : bits .and .u64 x 4294967295 = x % 4294967296 :=
  bits_mask .u64 64 (by decide) (fun n a b => u64in n a (by simpa using b)) 32 (by decide) x h0 (by simpa using h1)
theorem mul_hi (x y : Int) (x0 : 0 ≤ x) (x1 : x < 18446744073709551616) (y0 : 0 ≤ y) (y1 : y < 18446744073709551616) :
    IntKind.u64.wrap ((IntKind.u64.wrap ((IntKind.u64.wrap ((x / 4294967296) * (y / 4294967296))) + ((IntKind.u64.wrap ((IntKind.u64.wrap ((x / 4294967296) * (bits .and .u64 y 4294967295))) + ((IntKind.u64.wrap ((bits .and .u64 x 4294967295) * (bits .and .u64 y 4294967295))) / 4294967296))) / 4294967296))) + ((IntKind.u64.wrap ((bits .and .u64 (IntKind.u64.wrap ((IntKind.u64.wrap ((x / 4294967296) * (bits .and .u64 y 4294967295))) + ((IntKind.u64.wrap ((bits .and .u64 x 4294967295) * (bits .and .u64 y 4294967295))) / 4294967296))) 4294967295) + (IntKind.u64.wrap ((bits .and .u64 x 4294967295) * (y / 4294967296))))) / 4294967296))
      = x * y / 18446744073709551616 := by
  rw [and32 x x0 x1, and32 y y0 y1]
  have ex : x = 4294967296 * (x / 4294967296) + x % 4294967296 := by omega
  have ey : y = 4294967296 * (y / 4294967296) + y % 4294967296 := by omega
  have a0 : 0 ≤ x / 4294967296 := by omega
  have a1 : x / 4294967296 ≤ 4294967295 := by omega
  have b0 : 0 ≤ x % 4294967296 := by omega
  have b1 : x % 4294967296 ≤ 4294967295 := by omega
  have c0 : 0 ≤ y / 4294967296 := by omega
  have c1 : y / 4294967296 ≤ 4294967295 := by omega
  have d0 : 0 ≤ y % 4294967296 := by omega
  have d1 : y % 4294967296 ≤ 4294967295 := by omega
  have exy : x * y = 18446744073709551616 * (x / 4294967296 * (y / 4294967296)) + 4294967296 * (x / 4294967296 * (y % 4294967296)) + 4294967296 * (x % 4294967296 * (y / 4294967296)) + x % 4294967296 * (y % 4294967296) := by
    conv => lhs; rw [ex, ey]
    generalize x / 4294967296 = p
    generalize x % 4294967296 = q
    generalize y / 4294967296 = r
    generalize y % 4294967296 = s
    rw [Int.add_mul, Int.mul_add, Int.mul_add, Int.mul_assoc, Int.mul_left_comm p, Int.mul_assoc, Int.mul_left_comm q]
    omega
  have P11 := Int.mul_le_mul a1 c1 c0 (by omega)
  have P10 := Int.mul_le_mul a1 d1 d0 (by omega)
  have P01 := Int.mul_le_mul b1 c1 c0 (by omega)
  have P00 := Int.mul_le_mul b1 d1 d0 (by omega)
  have Q11 := Int.mul_nonneg a0 c0
  have Q10 := Int.mul_nonneg a0 d0
  have Q01 := Int.mul_nonneg b0 c0
  have Q00 := Int.mul_nonneg b0 d0
  rw [exy]
  clear exy ex ey
  generalize x / 4294967296 * (y / 4294967296) = p11 at *
  generalize x / 4294967296 * (y % 4294967296) = p10 at *
  generalize x % 4294967296 * (y / 4294967296) = p01 at *
  generalize x % 4294967296 * (y % 4294967296) = p00 at *
  rw [u64in p11 (by omega) (by omega), u64in p10 (by omega) (by omega), u64in p01 (by omega) (by omega), u64in p00 (by omega) (by omega)]
  rw [u64in (p10 + p00 / 4294967296) (by omega) (by omega)]
  rw [and32 (p10 + p00 / 4294967296) (by omega) (by omega)]
  rw [u64in (p11 + (p10 + p00 / 4294967296) / 4294967296) (by omega) (by omega)]
  rw [u64in ((p10 + p00 / 4294967296) % 4294967296 + p01) (by omega) (by omega)]
  rw [u64in _ (by omega) (by omega)]
  omega
end Go.Proofs.Ytafgilnjggindaa.Tk
